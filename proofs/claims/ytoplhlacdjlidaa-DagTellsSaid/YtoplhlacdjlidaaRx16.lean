/- Contracts of Go functions and what they come to, over the translation of this seat: made by a program of this session (print2.py). -/
import Derived.Test.YtoplhlacdjlidaaRx0
namespace Go.Proofs.Ytoplhlacdjlidaa.R
open Go.RowKit Go.Proofs.Ytoplhlacdjlidaa.Co Go.Proofs.Ytoplhlacdjlidaa.Ret Go.Proofs.Ytoplhlacdjlidaa.Plain Go.Proofs.YtoplhlacdjlidaaW.PrintWords Go.Proofs.YtoplhlacdjlidaaW.PrintLast Go.Proofs.YtoplhlacdjlidaaW.PrintMore
attribute [local go_sem] max2_int min2_int max_two min_two max_three min_three max_four min_four   -- for this text's walks alone
set_option linter.unusedVariables false
set_option linter.unusedSimpArgs false

/-! ### millhandref23_node: function 50 -/
mutual
def millhandref23_node.j0 : Nat → Int → Bool → List (S40) → List Int → Int → Int → Option (Bool)
 | 0, _, _, _, _, _, _ => none
 | k + 1, x1, x29, x292000, x294000, x294001, x294002 => if x29 = true then (some false) else (millhandref23_node.l0 k x1 0 x292000 x294000 x294001 x294002)
def millhandref23_node.l0 : Nat → Int → Int → List (S40) → List Int → Int → Int → Option (Bool)
 | 0, _, _, _, _, _, _ => none
 | k + 1, x1, x6, x292000, x294000, x294001, x294002 => if x6 < (x294000.length : Int) then (if 0 ≤ x6 then (if (rd x294000 x6) < 0 then (some false) else (if (rd x294000 x6) ≥ (x292000.length : Int) then (some false) else (if (rd x294000 x6) = x1 then (some false) else (if x6 > 0 then (if 0 ≤ (wrap64 (x6 - 1)) then (if (wrap64 (x6 - 1)) < (x294000.length : Int) then (if (rd x294000 x6) ≤ (rd x294000 (wrap64 (x6 - 1))) then (some false) else (millhandref23_node.l0 k x1 (wrap64 (x6 + 1)) x292000 x294000 x294001 x294002)) else (none)) else (none)) else (millhandref23_node.l0 k x1 (wrap64 (x6 + 1)) x292000 x294000 x294001 x294002))))) else (none)) else (some true)
end
def millhandref23_node.f (k : Nat) (l0_0 : List (S40)) (a1 : Int) : Option (Bool) := if 0 ≤ a1 then (if a1 < (l0_0.length : Int) then (if ((rd_T40 l0_0 a1).f1) < 1 then (millhandref23_node.j0 k a1 true l0_0 ((rd_T40 l0_0 a1).f0) ((rd_T40 l0_0 a1).f1) ((rd_T40 l0_0 a1).f2)) else (if ((rd_T40 l0_0 a1).f1) > 5 then (millhandref23_node.j0 k a1 true l0_0 ((rd_T40 l0_0 a1).f0) ((rd_T40 l0_0 a1).f1) ((rd_T40 l0_0 a1).f2)) else (if ((rd_T40 l0_0 a1).f2) < 0 then (millhandref23_node.j0 k a1 true l0_0 ((rd_T40 l0_0 a1).f0) ((rd_T40 l0_0 a1).f1) ((rd_T40 l0_0 a1).f2)) else (millhandref23_node.j0 k a1 (decide (((rd_T40 l0_0 a1).f2) > 1048576)) l0_0 ((rd_T40 l0_0 a1).f0) ((rd_T40 l0_0 a1).f1) ((rd_T40 l0_0 a1).f2))))) else (none)) else (none)
theorem millhandref23_node.mono_l : ∀ k, (∀ y0 y1 y2 y3 y4 y5, LeO (millhandref23_node.j0 k y0 y1 y2 y3 y4 y5) (millhandref23_node.j0 (k + 1) y0 y1 y2 y3 y4 y5)) ∧ (∀ y0 y1 y2 y3 y4 y5, LeO (millhandref23_node.l0 k y0 y1 y2 y3 y4 y5) (millhandref23_node.l0 (k + 1) y0 y1 y2 y3 y4 y5))
 | 0 => ⟨fun _ _ _ _ _ _ r h => by simp [millhandref23_node.j0] at h, fun _ _ _ _ _ _ r h => by simp [millhandref23_node.l0] at h⟩
 | k + 1 => by
  obtain ⟨ih0, ih1⟩ := millhandref23_node.mono_l k
  refine ⟨?_, ?_⟩
  ·
   intro y0 y1 y2 y3 y4 y5
   unfold millhandref23_node.j0
   repeat' first
   | (with_reducible exact ih0 _ _ _ _ _ _)
   | (with_reducible exact ih1 _ _ _ _ _ _)
   | (with_reducible exact LeO.refl _)
   | (with_reducible exact LeO.none _)
   | (with_reducible refine LeO.ite ?_ ?_)
   | (with_reducible refine LeO.bind ?_ (fun _ => ?_))
   | exact ih0 _ _ _ _ _ _
   | exact ih1 _ _ _ _ _ _
   | exact LeO.none _
   | refine LeO.ite ?_ ?_
   | refine LeO.bind ?_ (fun _ => ?_)
  ·
   intro y0 y1 y2 y3 y4 y5
   unfold millhandref23_node.l0
   repeat' first
   | (with_reducible exact ih0 _ _ _ _ _ _)
   | (with_reducible exact ih1 _ _ _ _ _ _)
   | (with_reducible exact LeO.refl _)
   | (with_reducible exact LeO.none _)
   | (with_reducible refine LeO.ite ?_ ?_)
   | (with_reducible refine LeO.bind ?_ (fun _ => ?_))
   | exact ih0 _ _ _ _ _ _
   | exact ih1 _ _ _ _ _ _
   | exact LeO.none _
   | refine LeO.ite ?_ ?_
   | refine LeO.bind ?_ (fun _ => ?_)
theorem millhandref23_node.mono : ∀ a0 a1 k, LeO (millhandref23_node.f k a0 a1) (millhandref23_node.f (k + 1) a0 a1) := by
 intro a0 a1 k
 obtain ⟨ih0, ih1⟩ := millhandref23_node.mono_l k
 unfold millhandref23_node.f
 repeat' first
   | (with_reducible exact ih0 _ _ _ _ _ _)
   | (with_reducible exact ih1 _ _ _ _ _ _)
   | (with_reducible exact LeO.refl _)
   | (with_reducible exact LeO.none _)
   | (with_reducible refine LeO.ite ?_ ?_)
   | (with_reducible refine LeO.bind ?_ (fun _ => ?_))
   | exact ih0 _ _ _ _ _ _
   | exact ih1 _ _ _ _ _ _
   | exact LeO.none _
   | refine LeO.ite ?_ ?_
   | refine LeO.bind ?_ (fun _ => ?_)
set_option maxHeartbeats 8000000 in
set_option maxRecDepth 100000 in
theorem millhandref23_node.calls (k : Nat) (A0_0 : Option Addr) (c0_0 : Nat) (l0_0 : List (S40)) (a1 : Int) (r : Bool) (w : World) (hr0_0 : Kd.C k40 w A0_0 l0_0.length l0_0) (hc0_0 : l0_0.length ≤ c0_0) (h : millhandref23_node.f k l0_0 a1 = some r) :
  Calls Try.prog 50 #[.agg #[.slice A0_0 l0_0.length c0_0], .int .i64 a1] w fun e w' => e = .returned (.bool r) ∧ Below w.heap.size w w' := by
 have hu25 := Try.underlying25
 have hu40 := Try.underlying40
 have HR0_0 := Aside0.mk hr0_0
 have HC0_0 := Aside0.mk hc0_0
 clear hr0_0 hc0_0
 have HB := Aside0.mk (Below.refl w.heap.size w)
 have H : (if 0 ≤ a1 then (if a1 < (l0_0.length : Int) then (if ((rd_T40 l0_0 a1).f1) < 1 then (millhandref23_node.j0 k a1 true l0_0 ((rd_T40 l0_0 a1).f0) ((rd_T40 l0_0 a1).f1) ((rd_T40 l0_0 a1).f2)) else (if ((rd_T40 l0_0 a1).f1) > 5 then (millhandref23_node.j0 k a1 true l0_0 ((rd_T40 l0_0 a1).f0) ((rd_T40 l0_0 a1).f1) ((rd_T40 l0_0 a1).f2)) else (if ((rd_T40 l0_0 a1).f2) < 0 then (millhandref23_node.j0 k a1 true l0_0 ((rd_T40 l0_0 a1).f0) ((rd_T40 l0_0 a1).f1) ((rd_T40 l0_0 a1).f2)) else (millhandref23_node.j0 k a1 (decide (((rd_T40 l0_0 a1).f2) > 1048576)) l0_0 ((rd_T40 l0_0 a1).f0) ((rd_T40 l0_0 a1).f1) ((rd_T40 l0_0 a1).f2))))) else (none)) else (none)) = some r := h
 clear h
 by_cases c3 : 0 ≤ a1
 ·
  rw [if_pos c3] at H
  have c3b0 : decide (0 ≤ a1) = true := decide_eq_true c3
  clear c3
  by_cases c4 : a1 < (l0_0.length : Int)
  ·
   rw [if_pos c4] at H
   have c4b0 : decide (a1 < (l0_0.length : Int)) = true := decide_eq_true c4
   clear c4
   have HC5 := Aside0.mk H
   clear H
   go_enter Try.func50, Try.ntmps50
   go_upto_region 2 with (first | ((with_reducible refine gate_dst (N := 2) rfl ?_); (try (refine gate_guard (by rfl) ?_; dsimp only)); refine box_event ?hg (N := 2) ?hd (cs := #[.slice A0_0 l0_0.length c0_0]) (t := 25) ?hr ?_; (case hd => rfl); (case hg => rfl); (case hr => first | (go_simp; done) | (go_simp; rfl)); intro gb291 hg w6 hbox hb; have n0_ := Aside0.mk (below_step (by repeat (first | (with_reducible first | exact HB.out | apply below_alloc | apply pw_below_drewN | apply below_drew1) | exact HB.out)) hb); have n1_ := Aside0.mk (hbox); have n2_ := Aside0.mk ((by rw [hg]; exact (below_size (by repeat (first | (with_reducible first | exact HB.out | apply below_alloc | apply pw_below_drewN | apply below_drew1) | exact HB.out))) : w.heap.size ≤ gb291)); have n3_ := Aside0.mk ((by rw [hg]; exact (below_size (by repeat (first | (with_reducible first | exact HB.out | apply below_alloc | apply pw_below_drewN | apply below_drew1) | exact HB.out))) : w.heap.size ≤ gb291)); clear HB; have HB := n0_; have BK291 := n1_; have GW291 := n2_; have GE291 := n3_; clear n0_ n1_ n2_ n3_; clear hb hbox hg; have hcz7_0 : w6.cell? ⟨gb291, 0, none⟩ = some (.slice A0_0 l0_0.length c0_0) := (blk_cell BK291.out 0).trans rfl; have hfz7_0 := blk_frozen BK291.out 0; have p292 : 0 ≤ (a1 : Int) := of_decide_eq_true (by first | (with_reducible assumption) | assumption); have q292 : a1 < (l0_0.length : Int) := of_decide_eq_true (by first | (with_reducible assumption) | assumption); obtain ⟨ad292, A292_0, c292_0, e292, hx292_0, hx292_1, hx292_2, hl292_0, hi292_0⟩ := at_T40 HR0_0.out a1 p292 q292; cases e292; replace hx292_0 := cl_ HB.out hx292_0; replace hx292_1 := cl_ HB.out hx292_1; replace hx292_2 := cl_ HB.out hx292_2; have HR292_0 := Aside0.mk hi292_0; have HC292_0 := Aside0.mk hl292_0; clear hi292_0 hl292_0; replace p292 := eq_true p292; replace q292 := eq_true q292) | ((with_reducible refine gate_dst (N := 5) rfl ?_); (try (refine gate_guard (by rfl) ?_; dsimp only)); refine box_event ?hg (N := 5) ?hd (cs := #[.slice none 0 0, .int .i64 0, .int .i64 0]) (t := 40) ?hr ?_; (case hd => rfl); (case hg => rfl); (case hr => first | (go_simp; done) | (go_simp; rfl)); intro gb293 hg w8 hbox hb; have n0_ := Aside0.mk (blk_below (g := gb291) (o := .cells #[.slice (some ad292) l0_0.length c0_0] 25 (0, 0)) (by (with_reducible repeat (first | refine blk_drewN ?_ _ | refine blk_drew ?_ | refine blk_alloc ?_ _)); exact BK291.out) hb); have n1_ := Aside0.mk (below_step (by repeat (first | (with_reducible first | exact HB.out | apply below_alloc | apply pw_below_drewN | apply below_drew1 | refine below_set ?_ GE291.out) | exact HB.out)) hb); have n2_ := Aside0.mk (hbox); have n3_ := Aside0.mk ((by rw [hg]; exact (below_size (by repeat (first | (with_reducible first | exact HB.out | apply below_alloc | apply pw_below_drewN | apply below_drew1 | refine below_set ?_ GE291.out) | exact HB.out))) : w.heap.size ≤ gb293)); have n4_ := Aside0.mk ((by rw [hg]; exact (below_size (by repeat (first | (with_reducible first | exact HB.out | apply below_alloc | apply pw_below_drewN | apply below_drew1 | refine below_set ?_ GE291.out) | exact HB.out))) : w.heap.size ≤ gb293)); have n5_ := Aside0.mk ((by rw [hg]; exact Nat.ne_of_lt (blk_lt (g := gb291) (o := .cells #[.slice (some ad292) l0_0.length c0_0] 25 (0, 0)) (by (with_reducible repeat (first | refine blk_drewN ?_ _ | refine blk_drew ?_ | refine blk_alloc ?_ _)); exact BK291.out)) : gb291 ≠ gb293)); have n6_ := Aside0.mk ((by rw [hg]; exact Nat.ne_of_gt (blk_lt (g := gb291) (o := .cells #[.slice (some ad292) l0_0.length c0_0] 25 (0, 0)) (by (with_reducible repeat (first | refine blk_drewN ?_ _ | refine blk_drew ?_ | refine blk_alloc ?_ _)); exact BK291.out)) : gb293 ≠ gb291)); clear BK291; clear HB; have BK291 := n0_; have HB := n1_; have BK293 := n2_; have GW293 := n3_; have GE293 := n4_; have NB291_293 := n5_; have NB293_291 := n6_; clear n0_ n1_ n2_ n3_ n4_ n5_ n6_; clear hb hbox hg; have hnb9 := NB293_291.out; have hnc9 := NB291_293.out; have hcz10_0 : w8.cell? ⟨gb293, 0, none⟩ = some (.slice none 0 0) := (blk_cell BK293.out 0).trans rfl; have hcz10_1 : w8.cell? ⟨gb293, 1, none⟩ = some (.int .i64 0) := (blk_cell BK293.out 1).trans rfl; have hcz10_2 : w8.cell? ⟨gb293, 2, none⟩ = some (.int .i64 0) := (blk_cell BK293.out 2).trans rfl; have hfz10_0 := blk_frozen BK293.out 0; have hfz10_1 := blk_frozen BK293.out 1; have hfz10_2 := blk_frozen BK293.out 2))
   repeat (go_quiet (first | ((with_reducible refine gate_dst (N := 2) rfl ?_); (try (refine gate_guard (by rfl) ?_; dsimp only)); refine box_event ?hg (N := 2) ?hd (cs := #[.slice A0_0 l0_0.length c0_0]) (t := 25) ?hr ?_; (case hd => rfl); (case hg => rfl); (case hr => first | (go_simp; done) | (go_simp; rfl)); intro gb291 hg w6 hbox hb; have n0_ := Aside0.mk (below_step (by repeat (first | (with_reducible first | exact HB.out | apply below_alloc | apply pw_below_drewN | apply below_drew1) | exact HB.out)) hb); have n1_ := Aside0.mk (hbox); have n2_ := Aside0.mk ((by rw [hg]; exact (below_size (by repeat (first | (with_reducible first | exact HB.out | apply below_alloc | apply pw_below_drewN | apply below_drew1) | exact HB.out))) : w.heap.size ≤ gb291)); have n3_ := Aside0.mk ((by rw [hg]; exact (below_size (by repeat (first | (with_reducible first | exact HB.out | apply below_alloc | apply pw_below_drewN | apply below_drew1) | exact HB.out))) : w.heap.size ≤ gb291)); clear HB; have HB := n0_; have BK291 := n1_; have GW291 := n2_; have GE291 := n3_; clear n0_ n1_ n2_ n3_; clear hb hbox hg; have hcz7_0 : w6.cell? ⟨gb291, 0, none⟩ = some (.slice A0_0 l0_0.length c0_0) := (blk_cell BK291.out 0).trans rfl; have hfz7_0 := blk_frozen BK291.out 0; have p292 : 0 ≤ (a1 : Int) := of_decide_eq_true (by first | (with_reducible assumption) | assumption); have q292 : a1 < (l0_0.length : Int) := of_decide_eq_true (by first | (with_reducible assumption) | assumption); obtain ⟨ad292, A292_0, c292_0, e292, hx292_0, hx292_1, hx292_2, hl292_0, hi292_0⟩ := at_T40 HR0_0.out a1 p292 q292; cases e292; replace hx292_0 := cl_ HB.out hx292_0; replace hx292_1 := cl_ HB.out hx292_1; replace hx292_2 := cl_ HB.out hx292_2; have HR292_0 := Aside0.mk hi292_0; have HC292_0 := Aside0.mk hl292_0; clear hi292_0 hl292_0; replace p292 := eq_true p292; replace q292 := eq_true q292) | ((with_reducible refine gate_dst (N := 5) rfl ?_); (try (refine gate_guard (by rfl) ?_; dsimp only)); refine box_event ?hg (N := 5) ?hd (cs := #[.slice none 0 0, .int .i64 0, .int .i64 0]) (t := 40) ?hr ?_; (case hd => rfl); (case hg => rfl); (case hr => first | (go_simp; done) | (go_simp; rfl)); intro gb293 hg w8 hbox hb; have n0_ := Aside0.mk (blk_below (g := gb291) (o := .cells #[.slice (some ad292) l0_0.length c0_0] 25 (0, 0)) (by (with_reducible repeat (first | refine blk_drewN ?_ _ | refine blk_drew ?_ | refine blk_alloc ?_ _)); exact BK291.out) hb); have n1_ := Aside0.mk (below_step (by repeat (first | (with_reducible first | exact HB.out | apply below_alloc | apply pw_below_drewN | apply below_drew1 | refine below_set ?_ GE291.out) | exact HB.out)) hb); have n2_ := Aside0.mk (hbox); have n3_ := Aside0.mk ((by rw [hg]; exact (below_size (by repeat (first | (with_reducible first | exact HB.out | apply below_alloc | apply pw_below_drewN | apply below_drew1 | refine below_set ?_ GE291.out) | exact HB.out))) : w.heap.size ≤ gb293)); have n4_ := Aside0.mk ((by rw [hg]; exact (below_size (by repeat (first | (with_reducible first | exact HB.out | apply below_alloc | apply pw_below_drewN | apply below_drew1 | refine below_set ?_ GE291.out) | exact HB.out))) : w.heap.size ≤ gb293)); have n5_ := Aside0.mk ((by rw [hg]; exact Nat.ne_of_lt (blk_lt (g := gb291) (o := .cells #[.slice (some ad292) l0_0.length c0_0] 25 (0, 0)) (by (with_reducible repeat (first | refine blk_drewN ?_ _ | refine blk_drew ?_ | refine blk_alloc ?_ _)); exact BK291.out)) : gb291 ≠ gb293)); have n6_ := Aside0.mk ((by rw [hg]; exact Nat.ne_of_gt (blk_lt (g := gb291) (o := .cells #[.slice (some ad292) l0_0.length c0_0] 25 (0, 0)) (by (with_reducible repeat (first | refine blk_drewN ?_ _ | refine blk_drew ?_ | refine blk_alloc ?_ _)); exact BK291.out)) : gb293 ≠ gb291)); clear BK291; clear HB; have BK291 := n0_; have HB := n1_; have BK293 := n2_; have GW293 := n3_; have GE293 := n4_; have NB291_293 := n5_; have NB293_291 := n6_; clear n0_ n1_ n2_ n3_ n4_ n5_ n6_; clear hb hbox hg; have hnb9 := NB293_291.out; have hnc9 := NB291_293.out; have hcz10_0 : w8.cell? ⟨gb293, 0, none⟩ = some (.slice none 0 0) := (blk_cell BK293.out 0).trans rfl; have hcz10_1 : w8.cell? ⟨gb293, 1, none⟩ = some (.int .i64 0) := (blk_cell BK293.out 1).trans rfl; have hcz10_2 : w8.cell? ⟨gb293, 2, none⟩ = some (.int .i64 0) := (blk_cell BK293.out 2).trans rfl; have hfz10_0 := blk_frozen BK293.out 0; have hfz10_1 := blk_frozen BK293.out 1; have hfz10_2 := blk_frozen BK293.out 2)); go_upto_region 2 with (first | ((with_reducible refine gate_dst (N := 2) rfl ?_); (try (refine gate_guard (by rfl) ?_; dsimp only)); refine box_event ?hg (N := 2) ?hd (cs := #[.slice A0_0 l0_0.length c0_0]) (t := 25) ?hr ?_; (case hd => rfl); (case hg => rfl); (case hr => first | (go_simp; done) | (go_simp; rfl)); intro gb291 hg w6 hbox hb; have n0_ := Aside0.mk (below_step (by repeat (first | (with_reducible first | exact HB.out | apply below_alloc | apply pw_below_drewN | apply below_drew1) | exact HB.out)) hb); have n1_ := Aside0.mk (hbox); have n2_ := Aside0.mk ((by rw [hg]; exact (below_size (by repeat (first | (with_reducible first | exact HB.out | apply below_alloc | apply pw_below_drewN | apply below_drew1) | exact HB.out))) : w.heap.size ≤ gb291)); have n3_ := Aside0.mk ((by rw [hg]; exact (below_size (by repeat (first | (with_reducible first | exact HB.out | apply below_alloc | apply pw_below_drewN | apply below_drew1) | exact HB.out))) : w.heap.size ≤ gb291)); clear HB; have HB := n0_; have BK291 := n1_; have GW291 := n2_; have GE291 := n3_; clear n0_ n1_ n2_ n3_; clear hb hbox hg; have hcz7_0 : w6.cell? ⟨gb291, 0, none⟩ = some (.slice A0_0 l0_0.length c0_0) := (blk_cell BK291.out 0).trans rfl; have hfz7_0 := blk_frozen BK291.out 0; have p292 : 0 ≤ (a1 : Int) := of_decide_eq_true (by first | (with_reducible assumption) | assumption); have q292 : a1 < (l0_0.length : Int) := of_decide_eq_true (by first | (with_reducible assumption) | assumption); obtain ⟨ad292, A292_0, c292_0, e292, hx292_0, hx292_1, hx292_2, hl292_0, hi292_0⟩ := at_T40 HR0_0.out a1 p292 q292; cases e292; replace hx292_0 := cl_ HB.out hx292_0; replace hx292_1 := cl_ HB.out hx292_1; replace hx292_2 := cl_ HB.out hx292_2; have HR292_0 := Aside0.mk hi292_0; have HC292_0 := Aside0.mk hl292_0; clear hi292_0 hl292_0; replace p292 := eq_true p292; replace q292 := eq_true q292) | ((with_reducible refine gate_dst (N := 5) rfl ?_); (try (refine gate_guard (by rfl) ?_; dsimp only)); refine box_event ?hg (N := 5) ?hd (cs := #[.slice none 0 0, .int .i64 0, .int .i64 0]) (t := 40) ?hr ?_; (case hd => rfl); (case hg => rfl); (case hr => first | (go_simp; done) | (go_simp; rfl)); intro gb293 hg w8 hbox hb; have n0_ := Aside0.mk (blk_below (g := gb291) (o := .cells #[.slice (some ad292) l0_0.length c0_0] 25 (0, 0)) (by (with_reducible repeat (first | refine blk_drewN ?_ _ | refine blk_drew ?_ | refine blk_alloc ?_ _)); exact BK291.out) hb); have n1_ := Aside0.mk (below_step (by repeat (first | (with_reducible first | exact HB.out | apply below_alloc | apply pw_below_drewN | apply below_drew1 | refine below_set ?_ GE291.out) | exact HB.out)) hb); have n2_ := Aside0.mk (hbox); have n3_ := Aside0.mk ((by rw [hg]; exact (below_size (by repeat (first | (with_reducible first | exact HB.out | apply below_alloc | apply pw_below_drewN | apply below_drew1 | refine below_set ?_ GE291.out) | exact HB.out))) : w.heap.size ≤ gb293)); have n4_ := Aside0.mk ((by rw [hg]; exact (below_size (by repeat (first | (with_reducible first | exact HB.out | apply below_alloc | apply pw_below_drewN | apply below_drew1 | refine below_set ?_ GE291.out) | exact HB.out))) : w.heap.size ≤ gb293)); have n5_ := Aside0.mk ((by rw [hg]; exact Nat.ne_of_lt (blk_lt (g := gb291) (o := .cells #[.slice (some ad292) l0_0.length c0_0] 25 (0, 0)) (by (with_reducible repeat (first | refine blk_drewN ?_ _ | refine blk_drew ?_ | refine blk_alloc ?_ _)); exact BK291.out)) : gb291 ≠ gb293)); have n6_ := Aside0.mk ((by rw [hg]; exact Nat.ne_of_gt (blk_lt (g := gb291) (o := .cells #[.slice (some ad292) l0_0.length c0_0] 25 (0, 0)) (by (with_reducible repeat (first | refine blk_drewN ?_ _ | refine blk_drew ?_ | refine blk_alloc ?_ _)); exact BK291.out)) : gb293 ≠ gb291)); clear BK291; clear HB; have BK291 := n0_; have HB := n1_; have BK293 := n2_; have GW293 := n3_; have GE293 := n4_; have NB291_293 := n5_; have NB293_291 := n6_; clear n0_ n1_ n2_ n3_ n4_ n5_ n6_; clear hb hbox hg; have hnb9 := NB293_291.out; have hnc9 := NB291_293.out; have hcz10_0 : w8.cell? ⟨gb293, 0, none⟩ = some (.slice none 0 0) := (blk_cell BK293.out 0).trans rfl; have hcz10_1 : w8.cell? ⟨gb293, 1, none⟩ = some (.int .i64 0) := (blk_cell BK293.out 1).trans rfl; have hcz10_2 : w8.cell? ⟨gb293, 2, none⟩ = some (.int .i64 0) := (blk_cell BK293.out 2).trans rfl; have hfz10_0 := blk_frozen BK293.out 0; have hfz10_1 := blk_frozen BK293.out 1; have hfz10_2 := blk_frozen BK293.out 2)))
   (try simp only [Act.put, sa_, s0_, s1_])
   go_cut [29] (fun v29 wc => ∃ (kq : Nat) (x29_4 : Bool), v29 = .bool x29_4 ∧ Aside0 (millhandref23_node.j0 kq a1 x29_4 l0_0 ((rd_T40 l0_0 a1).f0) ((rd_T40 l0_0 a1).f1) ((rd_T40 l0_0 a1).f2) = some r) ∧ Aside0 (kq ≤ k) ∧ Aside0 (wc.heap[gb291]? = some (.cells #[(.slice (some ad292) l0_0.length c0_0)] 25 (0, 0))) ∧ Aside0 (wc.heap[gb293]? = some (.cells #[(.slice A292_0 ((rd_T40 l0_0 a1).f0).length c292_0), .int .i64 ((rd_T40 l0_0 a1).f1), .int .i64 ((rd_T40 l0_0 a1).f2)] 40 (0, 0))) ∧ Aside0 (Below w.heap.size w wc))
   case first =>
    have H := HC5.out
    clear HC5
    by_cases c11 : ((rd_T40 l0_0 a1).f1) < 1
    ·
     rw [if_pos c11] at H
     have c11b0 : decide (((rd_T40 l0_0 a1).f1) < 1) = true := decide_eq_true c11
     clear c11
     (first | rw [c11b0] | (simp only [i64_w, i32_w]; rw [c11b0]) | skip)
     have H' := Aside0.mk H
     clear H
     have hnb12 := NB293_291.out
     have hnc12 := NB291_293.out
     have hcz13_0 : w8.cell? ⟨gb293, 0, none⟩ = some (.slice none 0 0) := (blk_cell BK293.out 0).trans rfl
     have hcz13_1 : w8.cell? ⟨gb293, 1, none⟩ = some (.int .i64 0) := (blk_cell BK293.out 1).trans rfl
     have hcz13_2 : w8.cell? ⟨gb293, 2, none⟩ = some (.int .i64 0) := (blk_cell BK293.out 2).trans rfl
     have hfz13_0 := blk_frozen BK293.out 0
     have hfz13_1 := blk_frozen BK293.out 1
     have hfz13_2 := blk_frozen BK293.out 2
     go_wp2
     repeat (go_quiet (fail); try go_wp2)
     go_meet
     case rel => exact ⟨_, (true), (by first | rfl | (simp; done) | (simp [*]; done)), H', ⟨by first | omega | exact Nat.le_refl _⟩, ⟨by (with_reducible repeat (first | refine blk_drewN ?_ _ | refine blk_drew ?_ | refine blk_alloc ?_ _)); refine blk_far ?_ NB291_293.out _; (with_reducible repeat (first | refine blk_drewN ?_ _ | refine blk_drew ?_ | refine blk_alloc ?_ _)); refine blk_far ?_ NB291_293.out _; (with_reducible repeat (first | refine blk_drewN ?_ _ | refine blk_drew ?_ | refine blk_alloc ?_ _)); refine blk_far ?_ NB291_293.out _; (with_reducible repeat (first | refine blk_drewN ?_ _ | refine blk_drew ?_ | refine blk_alloc ?_ _)); exact BK291.out⟩, ⟨by (with_reducible repeat (first | refine blk_drewN ?_ _ | refine blk_drew ?_ | refine blk_alloc ?_ _)); refine blk_put (cs := #[.slice A292_0 ((rd_T40 l0_0 a1).f0).length c292_0, .int .i64 ((rd_T40 l0_0 a1).f1), .int .i64 0]) ?_ 2 _ rfl; (with_reducible repeat (first | refine blk_drewN ?_ _ | refine blk_drew ?_ | refine blk_alloc ?_ _)); refine blk_put (cs := #[.slice A292_0 ((rd_T40 l0_0 a1).f0).length c292_0, .int .i64 0, .int .i64 0]) ?_ 1 _ rfl; (with_reducible repeat (first | refine blk_drewN ?_ _ | refine blk_drew ?_ | refine blk_alloc ?_ _)); refine blk_put (cs := #[.slice none 0 0, .int .i64 0, .int .i64 0]) ?_ 0 _ rfl; (with_reducible repeat (first | refine blk_drewN ?_ _ | refine blk_drew ?_ | refine blk_alloc ?_ _)); exact BK293.out⟩, ⟨by repeat (first | (with_reducible first | exact HB.out | apply below_alloc | apply pw_below_drewN | apply below_drew1 | refine below_set ?_ GE291.out | refine below_set ?_ GE293.out) | exact HB.out)⟩⟩
    ·
     rw [if_neg c11] at H
     have c11b0 : decide (((rd_T40 l0_0 a1).f1) < 1) = false := decide_eq_false c11
     clear c11
     (first | rw [c11b0] | (simp only [i64_w, i32_w]; rw [c11b0]) | skip)
     by_cases c14 : ((rd_T40 l0_0 a1).f1) > 5
     ·
      rw [if_pos c14] at H
      have c14b0 : decide (5 < ((rd_T40 l0_0 a1).f1)) = true := decide_eq_true c14
      clear c14
      have H' := Aside0.mk H
      clear H
      have hnb15 := NB293_291.out
      have hnc15 := NB291_293.out
      have hcz16_0 : w8.cell? ⟨gb293, 0, none⟩ = some (.slice none 0 0) := (blk_cell BK293.out 0).trans rfl
      have hcz16_1 : w8.cell? ⟨gb293, 1, none⟩ = some (.int .i64 0) := (blk_cell BK293.out 1).trans rfl
      have hcz16_2 : w8.cell? ⟨gb293, 2, none⟩ = some (.int .i64 0) := (blk_cell BK293.out 2).trans rfl
      have hfz16_0 := blk_frozen BK293.out 0
      have hfz16_1 := blk_frozen BK293.out 1
      have hfz16_2 := blk_frozen BK293.out 2
      go_wp2
      repeat (go_quiet (fail); try go_wp2)
      go_meet
      case rel => exact ⟨_, (true), (by first | rfl | (simp; done) | (simp [*]; done)), H', ⟨by first | omega | exact Nat.le_refl _⟩, ⟨by (with_reducible repeat (first | refine blk_drewN ?_ _ | refine blk_drew ?_ | refine blk_alloc ?_ _)); refine blk_far ?_ NB291_293.out _; (with_reducible repeat (first | refine blk_drewN ?_ _ | refine blk_drew ?_ | refine blk_alloc ?_ _)); refine blk_far ?_ NB291_293.out _; (with_reducible repeat (first | refine blk_drewN ?_ _ | refine blk_drew ?_ | refine blk_alloc ?_ _)); refine blk_far ?_ NB291_293.out _; (with_reducible repeat (first | refine blk_drewN ?_ _ | refine blk_drew ?_ | refine blk_alloc ?_ _)); exact BK291.out⟩, ⟨by (with_reducible repeat (first | refine blk_drewN ?_ _ | refine blk_drew ?_ | refine blk_alloc ?_ _)); refine blk_put (cs := #[.slice A292_0 ((rd_T40 l0_0 a1).f0).length c292_0, .int .i64 ((rd_T40 l0_0 a1).f1), .int .i64 0]) ?_ 2 _ rfl; (with_reducible repeat (first | refine blk_drewN ?_ _ | refine blk_drew ?_ | refine blk_alloc ?_ _)); refine blk_put (cs := #[.slice A292_0 ((rd_T40 l0_0 a1).f0).length c292_0, .int .i64 0, .int .i64 0]) ?_ 1 _ rfl; (with_reducible repeat (first | refine blk_drewN ?_ _ | refine blk_drew ?_ | refine blk_alloc ?_ _)); refine blk_put (cs := #[.slice none 0 0, .int .i64 0, .int .i64 0]) ?_ 0 _ rfl; (with_reducible repeat (first | refine blk_drewN ?_ _ | refine blk_drew ?_ | refine blk_alloc ?_ _)); exact BK293.out⟩, ⟨by repeat (first | (with_reducible first | exact HB.out | apply below_alloc | apply pw_below_drewN | apply below_drew1 | refine below_set ?_ GE291.out | refine below_set ?_ GE293.out) | exact HB.out)⟩⟩
     ·
      rw [if_neg c14] at H
      have c14b0 : decide (5 < ((rd_T40 l0_0 a1).f1)) = false := decide_eq_false c14
      clear c14
      by_cases c17 : ((rd_T40 l0_0 a1).f2) < 0
      ·
       rw [if_pos c17] at H
       have c17b0 : decide (((rd_T40 l0_0 a1).f2) < 0) = true := decide_eq_true c17
       clear c17
       have H' := Aside0.mk H
       clear H
       have hnb18 := NB293_291.out
       have hnc18 := NB291_293.out
       have hcz19_0 : w8.cell? ⟨gb293, 0, none⟩ = some (.slice none 0 0) := (blk_cell BK293.out 0).trans rfl
       have hcz19_1 : w8.cell? ⟨gb293, 1, none⟩ = some (.int .i64 0) := (blk_cell BK293.out 1).trans rfl
       have hcz19_2 : w8.cell? ⟨gb293, 2, none⟩ = some (.int .i64 0) := (blk_cell BK293.out 2).trans rfl
       have hfz19_0 := blk_frozen BK293.out 0
       have hfz19_1 := blk_frozen BK293.out 1
       have hfz19_2 := blk_frozen BK293.out 2
       go_wp2
       repeat (go_quiet (fail); try go_wp2)
       go_meet
       case rel => exact ⟨_, (true), (by first | rfl | (simp; done) | (simp [*]; done)), H', ⟨by first | omega | exact Nat.le_refl _⟩, ⟨by (with_reducible repeat (first | refine blk_drewN ?_ _ | refine blk_drew ?_ | refine blk_alloc ?_ _)); refine blk_far ?_ NB291_293.out _; (with_reducible repeat (first | refine blk_drewN ?_ _ | refine blk_drew ?_ | refine blk_alloc ?_ _)); refine blk_far ?_ NB291_293.out _; (with_reducible repeat (first | refine blk_drewN ?_ _ | refine blk_drew ?_ | refine blk_alloc ?_ _)); refine blk_far ?_ NB291_293.out _; (with_reducible repeat (first | refine blk_drewN ?_ _ | refine blk_drew ?_ | refine blk_alloc ?_ _)); exact BK291.out⟩, ⟨by (with_reducible repeat (first | refine blk_drewN ?_ _ | refine blk_drew ?_ | refine blk_alloc ?_ _)); refine blk_put (cs := #[.slice A292_0 ((rd_T40 l0_0 a1).f0).length c292_0, .int .i64 ((rd_T40 l0_0 a1).f1), .int .i64 0]) ?_ 2 _ rfl; (with_reducible repeat (first | refine blk_drewN ?_ _ | refine blk_drew ?_ | refine blk_alloc ?_ _)); refine blk_put (cs := #[.slice A292_0 ((rd_T40 l0_0 a1).f0).length c292_0, .int .i64 0, .int .i64 0]) ?_ 1 _ rfl; (with_reducible repeat (first | refine blk_drewN ?_ _ | refine blk_drew ?_ | refine blk_alloc ?_ _)); refine blk_put (cs := #[.slice none 0 0, .int .i64 0, .int .i64 0]) ?_ 0 _ rfl; (with_reducible repeat (first | refine blk_drewN ?_ _ | refine blk_drew ?_ | refine blk_alloc ?_ _)); exact BK293.out⟩, ⟨by repeat (first | (with_reducible first | exact HB.out | apply below_alloc | apply pw_below_drewN | apply below_drew1 | refine below_set ?_ GE291.out | refine below_set ?_ GE293.out) | exact HB.out)⟩⟩
      ·
       rw [if_neg c17] at H
       have c17b0 : decide (((rd_T40 l0_0 a1).f2) < 0) = false := decide_eq_false c17
       clear c17
       have H' := Aside0.mk H
       clear H
       have hnb20 := NB293_291.out
       have hnc20 := NB291_293.out
       have hcz21_0 : w8.cell? ⟨gb293, 0, none⟩ = some (.slice none 0 0) := (blk_cell BK293.out 0).trans rfl
       have hcz21_1 : w8.cell? ⟨gb293, 1, none⟩ = some (.int .i64 0) := (blk_cell BK293.out 1).trans rfl
       have hcz21_2 : w8.cell? ⟨gb293, 2, none⟩ = some (.int .i64 0) := (blk_cell BK293.out 2).trans rfl
       have hfz21_0 := blk_frozen BK293.out 0
       have hfz21_1 := blk_frozen BK293.out 1
       have hfz21_2 := blk_frozen BK293.out 2
       go_wp2
       repeat (go_quiet (fail); try go_wp2)
       go_meet
       case rel => exact ⟨_, (decide (((rd_T40 l0_0 a1).f2) > 1048576)), (by first | rfl | (simp; done) | (simp [*]; done)), H', ⟨by first | omega | exact Nat.le_refl _⟩, ⟨by (with_reducible repeat (first | refine blk_drewN ?_ _ | refine blk_drew ?_ | refine blk_alloc ?_ _)); refine blk_far ?_ NB291_293.out _; (with_reducible repeat (first | refine blk_drewN ?_ _ | refine blk_drew ?_ | refine blk_alloc ?_ _)); refine blk_far ?_ NB291_293.out _; (with_reducible repeat (first | refine blk_drewN ?_ _ | refine blk_drew ?_ | refine blk_alloc ?_ _)); refine blk_far ?_ NB291_293.out _; (with_reducible repeat (first | refine blk_drewN ?_ _ | refine blk_drew ?_ | refine blk_alloc ?_ _)); exact BK291.out⟩, ⟨by (with_reducible repeat (first | refine blk_drewN ?_ _ | refine blk_drew ?_ | refine blk_alloc ?_ _)); refine blk_put (cs := #[.slice A292_0 ((rd_T40 l0_0 a1).f0).length c292_0, .int .i64 ((rd_T40 l0_0 a1).f1), .int .i64 0]) ?_ 2 _ rfl; (with_reducible repeat (first | refine blk_drewN ?_ _ | refine blk_drew ?_ | refine blk_alloc ?_ _)); refine blk_put (cs := #[.slice A292_0 ((rd_T40 l0_0 a1).f0).length c292_0, .int .i64 0, .int .i64 0]) ?_ 1 _ rfl; (with_reducible repeat (first | refine blk_drewN ?_ _ | refine blk_drew ?_ | refine blk_alloc ?_ _)); refine blk_put (cs := #[.slice none 0 0, .int .i64 0, .int .i64 0]) ?_ 0 _ rfl; (with_reducible repeat (first | refine blk_drewN ?_ _ | refine blk_drew ?_ | refine blk_alloc ?_ _)); exact BK293.out⟩, ⟨by repeat (first | (with_reducible first | exact HB.out | apply below_alloc | apply pw_below_drewN | apply below_drew1 | refine below_set ?_ GE291.out | refine below_set ?_ GE293.out) | exact HB.out)⟩⟩
   case rest =>
    clear HC5
    try clear c1
    try clear c2
    try clear p2
    try clear q2
    try clear hx2
    try clear c3
    try clear c3b0
    try clear c4
    try clear c4b0
    try clear c5
    try clear c9
    try clear c11
    try clear c11b0
    try clear c12
    try clear c14
    try clear c14b0
    try clear c15
    try clear c17
    try clear c17b0
    try clear c18
    try clear c20
    try clear hcz10_0
    try clear hcz10_1
    try clear hcz10_2
    try clear hcz13_0
    try clear hcz13_1
    try clear hcz13_2
    try clear hcz16_0
    try clear hcz16_1
    try clear hcz16_2
    try clear hcz19_0
    try clear hcz19_1
    try clear hcz19_2
    try clear hcz21_0
    try clear hcz21_1
    try clear hcz21_2
    try clear hcz7_0
    try clear hfz10_0
    try clear hfz10_1
    try clear hfz10_2
    try clear hfz13_0
    try clear hfz13_1
    try clear hfz13_2
    try clear hfz16_0
    try clear hfz16_1
    try clear hfz16_2
    try clear hfz19_0
    try clear hfz19_1
    try clear hfz19_2
    try clear hfz21_0
    try clear hfz21_1
    try clear hfz21_2
    try clear hfz7_0
    try clear hx292_0
    try clear hx292_1
    try clear hx292_2
    try clear p292
    try clear q292
    obtain ⟨kq, x29_4, rfl, HA, HJ4, BK291, BK293, HB⟩ := hcut
    cases kq with
    | zero => exact absurd HA.out (by simp [millhandref23_node.j0])
    | succ kj4 =>
     have H := HA.out
     clear HA
     simp only [millhandref23_node.j0] at H
     by_cases c22 : x29_4 = true
     ·
      subst c22
      have H1 : (some false) = some r := by rw [if_pos rfl] at H; exact H
      clear H
      have H := H1
      clear H1
      obtain rfl := Option.some.inj H
      go_wp2
      repeat (go_quiet (fail); try go_wp2)
      go_ret
      exact ⟨by first | rfl | (simp [errW_none, errW_some] <;> rfl) | (simp [*, errW_none, errW_some] <;> rfl) | exact ret_ie _ | (simp [*, errW_none, errW_some, bne]; done), by repeat (first | (with_reducible first | exact HB.out | apply below_alloc | apply pw_below_drewN | apply below_drew1 | refine below_set ?_ GE291.out | refine below_set ?_ GE293.out) | exact HB.out)⟩
     ·
      replace c22 := Bool.eq_false_iff.mpr c22
      subst c22
      have H1 : (millhandref23_node.l0 kj4 a1 0 l0_0 ((rd_T40 l0_0 a1).f0) ((rd_T40 l0_0 a1).f1) ((rd_T40 l0_0 a1).f2)) = some r := by rw [if_neg (show ¬ (false = true) by decide)] at H; exact H
      clear H
      have H := H1
      clear H1
      have H' := Aside0.mk H
      clear H
      go_wp2
      repeat (go_quiet (fail); try go_wp2)
      go_loopg [6] kj4 (fun kq v6 w' => ∃ (x6_2 : Int), v6 = .int .i64 x6_2 ∧ Aside0 (millhandref23_node.l0 kq a1 x6_2 l0_0 ((rd_T40 l0_0 a1).f0) ((rd_T40 l0_0 a1).f1) ((rd_T40 l0_0 a1).f2) = some r) ∧ Aside0 (kq ≤ kj4) ∧ Aside0 (w'.heap[gb291]? = some (.cells #[(.slice (some ad292) l0_0.length c0_0)] 25 (0, 0))) ∧ Aside0 (w'.heap[gb293]? = some (.cells #[(.slice A292_0 ((rd_T40 l0_0 a1).f0).length c292_0), .int .i64 ((rd_T40 l0_0 a1).f1), .int .i64 ((rd_T40 l0_0 a1).f2)] 40 (0, 0))) ∧ Aside0 (Below w.heap.size w w'))
      case atStart => exact ⟨(0), (by first | rfl | (simp; done) | (simp [*]; done)), H', ⟨Nat.le_refl _⟩, ⟨by (with_reducible repeat (first | refine blk_drewN ?_ _ | refine blk_drew ?_ | refine blk_alloc ?_ _)); exact BK291.out⟩, ⟨by (with_reducible repeat (first | refine blk_drewN ?_ _ | refine blk_drew ?_ | refine blk_alloc ?_ _)); exact BK293.out⟩, ⟨by repeat (first | (with_reducible first | exact HB.out | apply below_alloc | apply pw_below_drewN | apply below_drew1 | refine below_set ?_ GE291.out | refine below_set ?_ GE293.out) | exact HB.out)⟩⟩
      case round =>
       clear H'
       try clear c1
       try clear c2
       try clear p2
       try clear q2
       try clear hx2
       try clear c3
       try clear c3b0
       try clear c4
       try clear c4b0
       try clear c5
       try clear c9
       try clear c11
       try clear c11b0
       try clear c12
       try clear c14
       try clear c14b0
       try clear c15
       try clear c17
       try clear c17b0
       try clear c18
       try clear c20
       try clear c22
       try clear hcz10_0
       try clear hcz10_1
       try clear hcz10_2
       try clear hcz13_0
       try clear hcz13_1
       try clear hcz13_2
       try clear hcz16_0
       try clear hcz16_1
       try clear hcz16_2
       try clear hcz19_0
       try clear hcz19_1
       try clear hcz19_2
       try clear hcz21_0
       try clear hcz21_1
       try clear hcz21_2
       try clear hcz7_0
       try clear hfz10_0
       try clear hfz10_1
       try clear hfz10_2
       try clear hfz13_0
       try clear hfz13_1
       try clear hfz13_2
       try clear hfz16_0
       try clear hfz16_1
       try clear hfz16_2
       try clear hfz19_0
       try clear hfz19_1
       try clear hfz19_2
       try clear hfz21_0
       try clear hfz21_1
       try clear hfz21_2
       try clear hfz7_0
       try clear hx292_0
       try clear hx292_1
       try clear hx292_2
       try clear p2
       try clear p292
       try clear q2
       try clear q292
       obtain ⟨x6_2, rfl, HA, HK2, BK291, BK293, HB⟩ := hrel
       cases gk with
       | zero => exact absurd HA.out (by simp [millhandref23_node.l0])
       | succ k2 =>
        have H := HA.out
        clear HA
        simp only [millhandref23_node.l0] at H
        by_cases c23 : x6_2 < (((rd_T40 l0_0 a1).f0).length : Int)
        ·
         rw [if_pos c23] at H
         have c23b0 : decide (x6_2 < (((rd_T40 l0_0 a1).f0).length : Int)) = true := decide_eq_true c23
         clear c23
         by_cases c24 : 0 ≤ x6_2
         ·
          rw [if_pos c24] at H
          have c24b0 : decide (0 ≤ x6_2) = true := decide_eq_true c24
          clear c24
          by_cases c25 : (rd ((rd_T40 l0_0 a1).f0) x6_2) < 0
          ·
           rw [if_pos c25] at H
           have c25b0 : decide ((rd ((rd_T40 l0_0 a1).f0) x6_2) < 0) = true := decide_eq_true c25
           clear c25
           obtain rfl := Option.some.inj H
           have hnb26 := NB293_291.out
           have hnc26 := NB291_293.out
           have hcz27_0 : wr.cell? ⟨gb293, 0, none⟩ = some (.slice A292_0 ((rd_T40 l0_0 a1).f0).length c292_0) := (blk_cell BK293.out 0).trans rfl
           have hcz27_1 : wr.cell? ⟨gb293, 1, none⟩ = some (.int .i64 ((rd_T40 l0_0 a1).f1)) := (blk_cell BK293.out 1).trans rfl
           have hcz27_2 : wr.cell? ⟨gb293, 2, none⟩ = some (.int .i64 ((rd_T40 l0_0 a1).f2)) := (blk_cell BK293.out 2).trans rfl
           have hfz27_0 := blk_frozen BK293.out 0
           have hfz27_1 := blk_frozen BK293.out 1
           have hfz27_2 := blk_frozen BK293.out 2
           have p294 : 0 ≤ (x6_2 : Int) := of_decide_eq_true (by first | (with_reducible assumption) | assumption)
           have q294 : x6_2 < (((rd_T40 l0_0 a1).f0).length : Int) := of_decide_eq_true (by first | (with_reducible assumption) | assumption)
           obtain ⟨ad294, e294, hx294_0⟩ := Kd.at_int HR292_0.out x6_2 p294 q294
           cases e294
           replace hx294_0 := cl_ HB.out hx294_0
           replace p294 := eq_true p294
           replace q294 := eq_true q294
           go_wp2
           repeat (go_quiet (fail); try go_wp2)
           go_ret
           exact ⟨by first | rfl | (simp [errW_none, errW_some] <;> rfl) | (simp [*, errW_none, errW_some] <;> rfl) | exact ret_ie _ | (simp [*, errW_none, errW_some, bne]; done), by repeat (first | (with_reducible first | exact HB.out | apply below_alloc | apply pw_below_drewN | apply below_drew1 | refine below_set ?_ GE291.out | refine below_set ?_ GE293.out) | exact HB.out)⟩
          ·
           rw [if_neg c25] at H
           have c25b0 : decide ((rd ((rd_T40 l0_0 a1).f0) x6_2) < 0) = false := decide_eq_false c25
           clear c25
           by_cases c28 : (rd ((rd_T40 l0_0 a1).f0) x6_2) ≥ (l0_0.length : Int)
           ·
            rw [if_pos c28] at H
            have c28b0 : decide ((l0_0.length : Int) ≤ (rd ((rd_T40 l0_0 a1).f0) x6_2)) = true := decide_eq_true c28
            clear c28
            obtain rfl := Option.some.inj H
            have hnb29 := NB293_291.out
            have hnc29 := NB291_293.out
            have hcz30_0 : wr.cell? ⟨gb293, 0, none⟩ = some (.slice A292_0 ((rd_T40 l0_0 a1).f0).length c292_0) := (blk_cell BK293.out 0).trans rfl
            have hcz30_1 : wr.cell? ⟨gb293, 1, none⟩ = some (.int .i64 ((rd_T40 l0_0 a1).f1)) := (blk_cell BK293.out 1).trans rfl
            have hcz30_2 : wr.cell? ⟨gb293, 2, none⟩ = some (.int .i64 ((rd_T40 l0_0 a1).f2)) := (blk_cell BK293.out 2).trans rfl
            have hfz30_0 := blk_frozen BK293.out 0
            have hfz30_1 := blk_frozen BK293.out 1
            have hfz30_2 := blk_frozen BK293.out 2
            have p294 : 0 ≤ (x6_2 : Int) := of_decide_eq_true (by first | (with_reducible assumption) | assumption)
            have q294 : x6_2 < (((rd_T40 l0_0 a1).f0).length : Int) := of_decide_eq_true (by first | (with_reducible assumption) | assumption)
            obtain ⟨ad294, e294, hx294_0⟩ := Kd.at_int HR292_0.out x6_2 p294 q294
            cases e294
            replace hx294_0 := cl_ HB.out hx294_0
            replace p294 := eq_true p294
            replace q294 := eq_true q294
            have p295 : 0 ≤ (x6_2 : Int) := of_decide_eq_true (by first | (with_reducible assumption) | assumption)
            have q295 : x6_2 < (((rd_T40 l0_0 a1).f0).length : Int) := of_decide_eq_true (by first | (with_reducible assumption) | assumption)
            obtain ⟨ad295, e295, hx295_0⟩ := Kd.at_int HR292_0.out x6_2 p295 q295
            obtain rfl : ad294 = ad295 := (by injection e295)
            replace hx295_0 := cl_ HB.out hx295_0
            replace p295 := eq_true p295
            replace q295 := eq_true q295
            have hcz31_0 : wr.cell? ⟨gb291, 0, none⟩ = some (.slice (some ad292) l0_0.length c0_0) := (blk_cell BK291.out 0).trans rfl
            have hfz31_0 := blk_frozen BK291.out 0
            go_wp2
            repeat (go_quiet (fail); try go_wp2)
            go_ret
            exact ⟨by first | rfl | (simp [errW_none, errW_some] <;> rfl) | (simp [*, errW_none, errW_some] <;> rfl) | exact ret_ie _ | (simp [*, errW_none, errW_some, bne]; done), by repeat (first | (with_reducible first | exact HB.out | apply below_alloc | apply pw_below_drewN | apply below_drew1 | refine below_set ?_ GE291.out | refine below_set ?_ GE293.out) | exact HB.out)⟩
           ·
            rw [if_neg c28] at H
            have c28b0 : decide ((l0_0.length : Int) ≤ (rd ((rd_T40 l0_0 a1).f0) x6_2)) = false := decide_eq_false c28
            clear c28
            by_cases c32 : (rd ((rd_T40 l0_0 a1).f0) x6_2) = a1
            ·
             rw [if_pos c32] at H
             have c32b0 : ((rd ((rd_T40 l0_0 a1).f0) x6_2) == a1) = true := beq_iff_eq.mpr c32
             have c32b1 : ((rd ((rd_T40 l0_0 a1).f0) x6_2) != a1) = false := bne_eq_false_iff_eq.mpr c32
             clear c32
             obtain rfl := Option.some.inj H
             have hnb33 := NB293_291.out
             have hnc33 := NB291_293.out
             have hcz34_0 : wr.cell? ⟨gb293, 0, none⟩ = some (.slice A292_0 ((rd_T40 l0_0 a1).f0).length c292_0) := (blk_cell BK293.out 0).trans rfl
             have hcz34_1 : wr.cell? ⟨gb293, 1, none⟩ = some (.int .i64 ((rd_T40 l0_0 a1).f1)) := (blk_cell BK293.out 1).trans rfl
             have hcz34_2 : wr.cell? ⟨gb293, 2, none⟩ = some (.int .i64 ((rd_T40 l0_0 a1).f2)) := (blk_cell BK293.out 2).trans rfl
             have hfz34_0 := blk_frozen BK293.out 0
             have hfz34_1 := blk_frozen BK293.out 1
             have hfz34_2 := blk_frozen BK293.out 2
             have p294 : 0 ≤ (x6_2 : Int) := of_decide_eq_true (by first | (with_reducible assumption) | assumption)
             have q294 : x6_2 < (((rd_T40 l0_0 a1).f0).length : Int) := of_decide_eq_true (by first | (with_reducible assumption) | assumption)
             obtain ⟨ad294, e294, hx294_0⟩ := Kd.at_int HR292_0.out x6_2 p294 q294
             cases e294
             replace hx294_0 := cl_ HB.out hx294_0
             replace p294 := eq_true p294
             replace q294 := eq_true q294
             have p295 : 0 ≤ (x6_2 : Int) := of_decide_eq_true (by first | (with_reducible assumption) | assumption)
             have q295 : x6_2 < (((rd_T40 l0_0 a1).f0).length : Int) := of_decide_eq_true (by first | (with_reducible assumption) | assumption)
             obtain ⟨ad295, e295, hx295_0⟩ := Kd.at_int HR292_0.out x6_2 p295 q295
             obtain rfl : ad294 = ad295 := (by injection e295)
             replace hx295_0 := cl_ HB.out hx295_0
             replace p295 := eq_true p295
             replace q295 := eq_true q295
             have hcz35_0 : wr.cell? ⟨gb291, 0, none⟩ = some (.slice (some ad292) l0_0.length c0_0) := (blk_cell BK291.out 0).trans rfl
             have hfz35_0 := blk_frozen BK291.out 0
             have p296 : 0 ≤ (x6_2 : Int) := of_decide_eq_true (by first | (with_reducible assumption) | assumption)
             have q296 : x6_2 < (((rd_T40 l0_0 a1).f0).length : Int) := of_decide_eq_true (by first | (with_reducible assumption) | assumption)
             obtain ⟨ad296, e296, hx296_0⟩ := Kd.at_int HR292_0.out x6_2 p296 q296
             obtain rfl : ad294 = ad296 := (by injection e296)
             replace hx296_0 := cl_ HB.out hx296_0
             replace p296 := eq_true p296
             replace q296 := eq_true q296
             go_wp2
             repeat (go_quiet (fail); try go_wp2)
             go_ret
             exact ⟨by first | rfl | (simp [errW_none, errW_some] <;> rfl) | (simp [*, errW_none, errW_some] <;> rfl) | exact ret_ie _ | (simp [*, errW_none, errW_some, bne]; done), by repeat (first | (with_reducible first | exact HB.out | apply below_alloc | apply pw_below_drewN | apply below_drew1 | refine below_set ?_ GE291.out | refine below_set ?_ GE293.out) | exact HB.out)⟩
            ·
             rw [if_neg c32] at H
             have c32b0 : ((rd ((rd_T40 l0_0 a1).f0) x6_2) == a1) = false := beq_eq_false_iff_ne.mpr c32
             have c32b1 : ((rd ((rd_T40 l0_0 a1).f0) x6_2) != a1) = true := bne_iff_ne.mpr c32
             by_cases c36 : x6_2 > 0
             ·
              rw [if_pos c36] at H
              have c36b0 : decide (0 < x6_2) = true := decide_eq_true c36
              clear c36
              obtain ⟨ji37, hji37⟩ : ∃ j_ : Int, (wrap64 (x6_2 - 1)) = j_ := ⟨_, rfl⟩
              replace H : (if 0 ≤ (ji37) then (if (ji37) < (((rd_T40 l0_0 a1).f0).length : Int) then (if (rd ((rd_T40 l0_0 a1).f0) x6_2) ≤ (rd ((rd_T40 l0_0 a1).f0) (ji37)) then (some false) else (millhandref23_node.l0 k2 a1 (wrap64 (x6_2 + 1)) l0_0 ((rd_T40 l0_0 a1).f0) ((rd_T40 l0_0 a1).f1) ((rd_T40 l0_0 a1).f2))) else (none)) else (none)) = some r := by first | (rw [hji37] at H; exact H) | (simp only [hji37] at H ⊢; exact H)
              have hji37w : (IntKind.i64.wrap (x6_2 - 1)) = ji37 := (i64_w _).trans hji37
              by_cases c38 : 0 ≤ (ji37)
              ·
               rw [if_pos c38] at H
               have c38b0 : decide (0 ≤ (ji37)) = true := decide_eq_true c38
               clear c38
               by_cases c39 : (ji37) < (((rd_T40 l0_0 a1).f0).length : Int)
               ·
                rw [if_pos c39] at H
                have c39b0 : decide ((ji37) < (((rd_T40 l0_0 a1).f0).length : Int)) = true := decide_eq_true c39
                clear c39
                by_cases c40 : (rd ((rd_T40 l0_0 a1).f0) x6_2) ≤ (rd ((rd_T40 l0_0 a1).f0) (ji37))
                ·
                 rw [if_pos c40] at H
                 have c40b0 : decide ((rd ((rd_T40 l0_0 a1).f0) x6_2) ≤ (rd ((rd_T40 l0_0 a1).f0) (ji37))) = true := decide_eq_true c40
                 clear c40
                 obtain rfl := Option.some.inj H
                 have hnb41 := NB293_291.out
                 have hnc41 := NB291_293.out
                 have hcz42_0 : wr.cell? ⟨gb293, 0, none⟩ = some (.slice A292_0 ((rd_T40 l0_0 a1).f0).length c292_0) := (blk_cell BK293.out 0).trans rfl
                 have hcz42_1 : wr.cell? ⟨gb293, 1, none⟩ = some (.int .i64 ((rd_T40 l0_0 a1).f1)) := (blk_cell BK293.out 1).trans rfl
                 have hcz42_2 : wr.cell? ⟨gb293, 2, none⟩ = some (.int .i64 ((rd_T40 l0_0 a1).f2)) := (blk_cell BK293.out 2).trans rfl
                 have hfz42_0 := blk_frozen BK293.out 0
                 have hfz42_1 := blk_frozen BK293.out 1
                 have hfz42_2 := blk_frozen BK293.out 2
                 have p294 : 0 ≤ (x6_2 : Int) := of_decide_eq_true (by first | (with_reducible assumption) | assumption)
                 have q294 : x6_2 < (((rd_T40 l0_0 a1).f0).length : Int) := of_decide_eq_true (by first | (with_reducible assumption) | assumption)
                 obtain ⟨ad294, e294, hx294_0⟩ := Kd.at_int HR292_0.out x6_2 p294 q294
                 cases e294
                 replace hx294_0 := cl_ HB.out hx294_0
                 replace p294 := eq_true p294
                 replace q294 := eq_true q294
                 have p295 : 0 ≤ (x6_2 : Int) := of_decide_eq_true (by first | (with_reducible assumption) | assumption)
                 have q295 : x6_2 < (((rd_T40 l0_0 a1).f0).length : Int) := of_decide_eq_true (by first | (with_reducible assumption) | assumption)
                 obtain ⟨ad295, e295, hx295_0⟩ := Kd.at_int HR292_0.out x6_2 p295 q295
                 obtain rfl : ad294 = ad295 := (by injection e295)
                 replace hx295_0 := cl_ HB.out hx295_0
                 replace p295 := eq_true p295
                 replace q295 := eq_true q295
                 have hcz43_0 : wr.cell? ⟨gb291, 0, none⟩ = some (.slice (some ad292) l0_0.length c0_0) := (blk_cell BK291.out 0).trans rfl
                 have hfz43_0 := blk_frozen BK291.out 0
                 have p296 : 0 ≤ (x6_2 : Int) := of_decide_eq_true (by first | (with_reducible assumption) | assumption)
                 have q296 : x6_2 < (((rd_T40 l0_0 a1).f0).length : Int) := of_decide_eq_true (by first | (with_reducible assumption) | assumption)
                 obtain ⟨ad296, e296, hx296_0⟩ := Kd.at_int HR292_0.out x6_2 p296 q296
                 obtain rfl : ad294 = ad296 := (by injection e296)
                 replace hx296_0 := cl_ HB.out hx296_0
                 replace p296 := eq_true p296
                 replace q296 := eq_true q296
                 have p297 : 0 ≤ (x6_2 : Int) := of_decide_eq_true (by first | (with_reducible assumption) | assumption)
                 have q297 : x6_2 < (((rd_T40 l0_0 a1).f0).length : Int) := of_decide_eq_true (by first | (with_reducible assumption) | assumption)
                 obtain ⟨ad297, e297, hx297_0⟩ := Kd.at_int HR292_0.out x6_2 p297 q297
                 obtain rfl : ad294 = ad297 := (by injection e297)
                 replace hx297_0 := cl_ HB.out hx297_0
                 replace p297 := eq_true p297
                 replace q297 := eq_true q297
                 have p298 : 0 ≤ ((ji37) : Int) := of_decide_eq_true (by first | (with_reducible assumption) | assumption)
                 have q298 : (ji37) < (((rd_T40 l0_0 a1).f0).length : Int) := of_decide_eq_true (by first | (with_reducible assumption) | assumption)
                 obtain ⟨ad298, e298, hx298_0⟩ := Kd.at_int HR292_0.out (ji37) p298 q298
                 obtain rfl : ad294 = ad298 := (by injection e298)
                 replace hx298_0 := cl_ HB.out hx298_0
                 replace p298 := eq_true p298
                 replace q298 := eq_true q298
                 go_wp2
                 repeat (go_quiet (fail); try go_wp2)
                 go_ret
                 exact ⟨by first | rfl | (simp [errW_none, errW_some] <;> rfl) | (simp only [← hji37]; first | rfl | (simp [errW_none, errW_some] <;> rfl)) | (simp [*, errW_none, errW_some] <;> rfl) | exact ret_ie _ | (simp [*, errW_none, errW_some, bne]; done), by repeat (first | (with_reducible first | exact HB.out | apply below_alloc | apply pw_below_drewN | apply below_drew1 | refine below_set ?_ GE291.out | refine below_set ?_ GE293.out) | exact HB.out)⟩
                ·
                 rw [if_neg c40] at H
                 have c40b0 : decide ((rd ((rd_T40 l0_0 a1).f0) x6_2) ≤ (rd ((rd_T40 l0_0 a1).f0) (ji37))) = false := decide_eq_false c40
                 clear c40
                 have H' := Aside0.mk H
                 clear H
                 have hnb44 := NB293_291.out
                 have hnc44 := NB291_293.out
                 have hcz45_0 : wr.cell? ⟨gb293, 0, none⟩ = some (.slice A292_0 ((rd_T40 l0_0 a1).f0).length c292_0) := (blk_cell BK293.out 0).trans rfl
                 have hcz45_1 : wr.cell? ⟨gb293, 1, none⟩ = some (.int .i64 ((rd_T40 l0_0 a1).f1)) := (blk_cell BK293.out 1).trans rfl
                 have hcz45_2 : wr.cell? ⟨gb293, 2, none⟩ = some (.int .i64 ((rd_T40 l0_0 a1).f2)) := (blk_cell BK293.out 2).trans rfl
                 have hfz45_0 := blk_frozen BK293.out 0
                 have hfz45_1 := blk_frozen BK293.out 1
                 have hfz45_2 := blk_frozen BK293.out 2
                 have p294 : 0 ≤ (x6_2 : Int) := of_decide_eq_true (by first | (with_reducible assumption) | assumption)
                 have q294 : x6_2 < (((rd_T40 l0_0 a1).f0).length : Int) := of_decide_eq_true (by first | (with_reducible assumption) | assumption)
                 obtain ⟨ad294, e294, hx294_0⟩ := Kd.at_int HR292_0.out x6_2 p294 q294
                 cases e294
                 replace hx294_0 := cl_ HB.out hx294_0
                 replace p294 := eq_true p294
                 replace q294 := eq_true q294
                 have p295 : 0 ≤ (x6_2 : Int) := of_decide_eq_true (by first | (with_reducible assumption) | assumption)
                 have q295 : x6_2 < (((rd_T40 l0_0 a1).f0).length : Int) := of_decide_eq_true (by first | (with_reducible assumption) | assumption)
                 obtain ⟨ad295, e295, hx295_0⟩ := Kd.at_int HR292_0.out x6_2 p295 q295
                 obtain rfl : ad294 = ad295 := (by injection e295)
                 replace hx295_0 := cl_ HB.out hx295_0
                 replace p295 := eq_true p295
                 replace q295 := eq_true q295
                 have hcz46_0 : wr.cell? ⟨gb291, 0, none⟩ = some (.slice (some ad292) l0_0.length c0_0) := (blk_cell BK291.out 0).trans rfl
                 have hfz46_0 := blk_frozen BK291.out 0
                 have p296 : 0 ≤ (x6_2 : Int) := of_decide_eq_true (by first | (with_reducible assumption) | assumption)
                 have q296 : x6_2 < (((rd_T40 l0_0 a1).f0).length : Int) := of_decide_eq_true (by first | (with_reducible assumption) | assumption)
                 obtain ⟨ad296, e296, hx296_0⟩ := Kd.at_int HR292_0.out x6_2 p296 q296
                 obtain rfl : ad294 = ad296 := (by injection e296)
                 replace hx296_0 := cl_ HB.out hx296_0
                 replace p296 := eq_true p296
                 replace q296 := eq_true q296
                 have p297 : 0 ≤ (x6_2 : Int) := of_decide_eq_true (by first | (with_reducible assumption) | assumption)
                 have q297 : x6_2 < (((rd_T40 l0_0 a1).f0).length : Int) := of_decide_eq_true (by first | (with_reducible assumption) | assumption)
                 obtain ⟨ad297, e297, hx297_0⟩ := Kd.at_int HR292_0.out x6_2 p297 q297
                 obtain rfl : ad294 = ad297 := (by injection e297)
                 replace hx297_0 := cl_ HB.out hx297_0
                 replace p297 := eq_true p297
                 replace q297 := eq_true q297
                 have p298 : 0 ≤ ((ji37) : Int) := of_decide_eq_true (by first | (with_reducible assumption) | assumption)
                 have q298 : (ji37) < (((rd_T40 l0_0 a1).f0).length : Int) := of_decide_eq_true (by first | (with_reducible assumption) | assumption)
                 obtain ⟨ad298, e298, hx298_0⟩ := Kd.at_int HR292_0.out (ji37) p298 q298
                 obtain rfl : ad294 = ad298 := (by injection e298)
                 replace hx298_0 := cl_ HB.out hx298_0
                 replace p298 := eq_true p298
                 replace q298 := eq_true q298
                 go_wp2
                 repeat (go_quiet (fail); try go_wp2)
                 go_roundg k2
                 case measure => have := HJ4.out; have := HK2.out; omega
                 case rel => exact ⟨(wrap64 (x6_2 + 1)), (by first | rfl | (simp; done) | (simp [*]; done)), H', ⟨by have := HJ4.out; have := HK2.out; omega⟩, ⟨by (with_reducible repeat (first | refine blk_drewN ?_ _ | refine blk_drew ?_ | refine blk_alloc ?_ _)); exact BK291.out⟩, ⟨by (with_reducible repeat (first | refine blk_drewN ?_ _ | refine blk_drew ?_ | refine blk_alloc ?_ _)); exact BK293.out⟩, ⟨by repeat (first | (with_reducible first | exact HB.out | apply below_alloc | apply pw_below_drewN | apply below_drew1 | refine below_set ?_ GE291.out | refine below_set ?_ GE293.out) | exact HB.out)⟩⟩
               ·
                rw [if_neg c39] at H
                exact absurd H (by simp)
              ·
               rw [if_neg c38] at H
               exact absurd H (by simp)
             ·
              rw [if_neg c36] at H
              have c36b0 : decide (0 < x6_2) = false := decide_eq_false c36
              clear c36
              have H' := Aside0.mk H
              clear H
              have hnb47 := NB293_291.out
              have hnc47 := NB291_293.out
              have hcz48_0 : wr.cell? ⟨gb293, 0, none⟩ = some (.slice A292_0 ((rd_T40 l0_0 a1).f0).length c292_0) := (blk_cell BK293.out 0).trans rfl
              have hcz48_1 : wr.cell? ⟨gb293, 1, none⟩ = some (.int .i64 ((rd_T40 l0_0 a1).f1)) := (blk_cell BK293.out 1).trans rfl
              have hcz48_2 : wr.cell? ⟨gb293, 2, none⟩ = some (.int .i64 ((rd_T40 l0_0 a1).f2)) := (blk_cell BK293.out 2).trans rfl
              have hfz48_0 := blk_frozen BK293.out 0
              have hfz48_1 := blk_frozen BK293.out 1
              have hfz48_2 := blk_frozen BK293.out 2
              have p294 : 0 ≤ (x6_2 : Int) := of_decide_eq_true (by first | (with_reducible assumption) | assumption)
              have q294 : x6_2 < (((rd_T40 l0_0 a1).f0).length : Int) := of_decide_eq_true (by first | (with_reducible assumption) | assumption)
              obtain ⟨ad294, e294, hx294_0⟩ := Kd.at_int HR292_0.out x6_2 p294 q294
              cases e294
              replace hx294_0 := cl_ HB.out hx294_0
              replace p294 := eq_true p294
              replace q294 := eq_true q294
              have p295 : 0 ≤ (x6_2 : Int) := of_decide_eq_true (by first | (with_reducible assumption) | assumption)
              have q295 : x6_2 < (((rd_T40 l0_0 a1).f0).length : Int) := of_decide_eq_true (by first | (with_reducible assumption) | assumption)
              obtain ⟨ad295, e295, hx295_0⟩ := Kd.at_int HR292_0.out x6_2 p295 q295
              obtain rfl : ad294 = ad295 := (by injection e295)
              replace hx295_0 := cl_ HB.out hx295_0
              replace p295 := eq_true p295
              replace q295 := eq_true q295
              have hcz49_0 : wr.cell? ⟨gb291, 0, none⟩ = some (.slice (some ad292) l0_0.length c0_0) := (blk_cell BK291.out 0).trans rfl
              have hfz49_0 := blk_frozen BK291.out 0
              have p296 : 0 ≤ (x6_2 : Int) := of_decide_eq_true (by first | (with_reducible assumption) | assumption)
              have q296 : x6_2 < (((rd_T40 l0_0 a1).f0).length : Int) := of_decide_eq_true (by first | (with_reducible assumption) | assumption)
              obtain ⟨ad296, e296, hx296_0⟩ := Kd.at_int HR292_0.out x6_2 p296 q296
              obtain rfl : ad294 = ad296 := (by injection e296)
              replace hx296_0 := cl_ HB.out hx296_0
              replace p296 := eq_true p296
              replace q296 := eq_true q296
              go_wp2
              repeat (go_quiet (fail); try go_wp2)
              go_roundg k2
              case measure => have := HJ4.out; have := HK2.out; omega
              case rel => exact ⟨(wrap64 (x6_2 + 1)), (by first | rfl | (simp; done) | (simp [*]; done)), H', ⟨by have := HJ4.out; have := HK2.out; omega⟩, ⟨by (with_reducible repeat (first | refine blk_drewN ?_ _ | refine blk_drew ?_ | refine blk_alloc ?_ _)); exact BK291.out⟩, ⟨by (with_reducible repeat (first | refine blk_drewN ?_ _ | refine blk_drew ?_ | refine blk_alloc ?_ _)); exact BK293.out⟩, ⟨by repeat (first | (with_reducible first | exact HB.out | apply below_alloc | apply pw_below_drewN | apply below_drew1 | refine below_set ?_ GE291.out | refine below_set ?_ GE293.out) | exact HB.out)⟩⟩
         ·
          rw [if_neg c24] at H
          exact absurd H (by simp)
        ·
         rw [if_neg c23] at H
         have c23b0 : decide (x6_2 < (((rd_T40 l0_0 a1).f0).length : Int)) = false := decide_eq_false c23
         clear c23
         obtain rfl := Option.some.inj H
         have hnb50 := NB293_291.out
         have hnc50 := NB291_293.out
         have hcz51_0 : wr.cell? ⟨gb293, 0, none⟩ = some (.slice A292_0 ((rd_T40 l0_0 a1).f0).length c292_0) := (blk_cell BK293.out 0).trans rfl
         have hcz51_1 : wr.cell? ⟨gb293, 1, none⟩ = some (.int .i64 ((rd_T40 l0_0 a1).f1)) := (blk_cell BK293.out 1).trans rfl
         have hcz51_2 : wr.cell? ⟨gb293, 2, none⟩ = some (.int .i64 ((rd_T40 l0_0 a1).f2)) := (blk_cell BK293.out 2).trans rfl
         have hfz51_0 := blk_frozen BK293.out 0
         have hfz51_1 := blk_frozen BK293.out 1
         have hfz51_2 := blk_frozen BK293.out 2
         go_wp2
         repeat (go_quiet (fail); try go_wp2)
         go_ret
         exact ⟨by first | rfl | (simp [errW_none, errW_some] <;> rfl) | (simp [*, errW_none, errW_some] <;> rfl) | exact ret_ie _ | (simp [*, errW_none, errW_some, bne]; done), by repeat (first | (with_reducible first | exact HB.out | apply below_alloc | apply pw_below_drewN | apply below_drew1 | refine below_set ?_ GE291.out | refine below_set ?_ GE293.out) | exact HB.out)⟩
  ·
   rw [if_neg c4] at H
   exact absurd H (by simp)
 ·
  rw [if_neg c3] at H
  exact absurd H (by simp)

end Go.Proofs.Ytoplhlacdjlidaa.R

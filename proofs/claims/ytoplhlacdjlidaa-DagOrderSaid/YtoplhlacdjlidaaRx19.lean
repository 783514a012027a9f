/- Contracts of Go functions and what they come to, over the translation of this seat: made by a program of this session (print2.py). -/
import Derived.Test.YtoplhlacdjlidaaRx0
import Derived.Test.YtoplhlacdjlidaaRx15
import Derived.Test.YtoplhlacdjlidaaRx16
import Derived.Test.YtoplhlacdjlidaaRx18
namespace Go.Proofs.Ytoplhlacdjlidaa.R
open Go.RowKit Go.Proofs.Ytoplhlacdjlidaa.Co Go.Proofs.Ytoplhlacdjlidaa.Ret Go.Proofs.Ytoplhlacdjlidaa.Plain Go.Proofs.Ytoplhlacdjlidaa.Box Go.Proofs.YtoplhlacdjlidaaW.PrintWords Go.Proofs.YtoplhlacdjlidaaW.PrintLast Go.Proofs.YtoplhlacdjlidaaW.PrintMore
attribute [local go_sem] max2_int min2_int max_two min_two max_three min_three max_four min_four   -- for this text's walks alone
set_option linter.unusedVariables false
set_option linter.unusedSimpArgs false

/-! ### millhandlaw23_DagOrder: function 4 -/
mutual
def millhandlaw23_DagOrder.j0 : Nat → Bool → Bool → List (S40) → Option (Bool)
 | 0, _, _, _ => none
 | k + 1, x3, x18, x294000 => if x18 = true then (some x3) else ((dag_Order.f k x294000).bind fun bt296 => ((dag_Depth.f k x294000).bind fun bt300 => (if bt296.2 = 0 then (millhandlaw23_DagOrder.j1 k bt296.1 bt296.2 bt300.1 bt300.2 (bt300.2 != 0) x294000) else (millhandlaw23_DagOrder.j1 k bt296.1 bt296.2 bt300.1 bt300.2 true x294000))))
def millhandlaw23_DagOrder.j1 : Nat → List Int → Int → List Int → Int → Bool → List (S40) → Option (Bool)
 | 0, _, _, _, _, _, _ => none
 | k + 1, x4, x5, x6, x7, x35, x294000 => if x35 = true then (if x5 = x7 then (some ((x4.length : Int) == 0)) else (some false)) else (if (x4.length : Int) = (x294000.length : Int) then (millhandlaw23_DagOrder.j2 k x4 x6 ((x6.length : Int) != (x4.length : Int)) x294000) else (millhandlaw23_DagOrder.j2 k x4 x6 true x294000))
def millhandlaw23_DagOrder.j2 : Nat → List Int → List Int → Bool → List (S40) → Option (Bool)
 | 0, _, _, _, _ => none
 | k + 1, x4, x6, x56, x294000 => if x56 = true then (some false) else (if 0 ≤ (x4.length : Int) then (if ((x4.length : Int) : Int).toNat ≤ 281474976710656 then (millhandlaw23_DagOrder.l0 k x4 x6 (List.replicate ((x4.length : Int) : Int).toNat false) 0 x294000) else (none)) else (none))
def millhandlaw23_DagOrder.l0 : Nat → List Int → List Int → List Bool → Int → List (S40) → Option (Bool)
 | 0, _, _, _, _, _ => none
 | k + 1, x4, x6, x8, x9, x294000 => if x9 < (x4.length : Int) then (if 0 ≤ x9 then (if (rd x4 x9) < 0 then (millhandlaw23_DagOrder.j4 k x4 x6 x8 x9 true x294000) else (if (rd x4 x9) ≥ (x8.length : Int) then (millhandlaw23_DagOrder.j4 k x4 x6 x8 x9 true x294000) else (if 0 ≤ (rd x4 x9) then (if (rd x4 x9) < (x8.length : Int) then (millhandlaw23_DagOrder.j4 k x4 x6 x8 x9 (rdOf false x8 (rd x4 x9)) x294000) else (none)) else (none)))) else (none)) else (some true)
def millhandlaw23_DagOrder.j4 : Nat → List Int → List Int → List Bool → Int → Bool → List (S40) → Option (Bool)
 | 0, _, _, _, _, _, _ => none
 | k + 1, x4, x6, x8, x9, x88, x294000 => if x88 = true then (some false) else (if 0 ≤ x9 then (if x9 < (x4.length : Int) then (if 0 ≤ (rd x4 x9) then (if (rd x4 x9) < (x294000.length : Int) then (millhandlaw23_DagOrder.l1 k x4 x6 x8 x9 0 x294000 ((rd_T40 x294000 (rd x4 x9)).f0) ((rd_T40 x294000 (rd x4 x9)).f1) ((rd_T40 x294000 (rd x4 x9)).f2)) else (none)) else (none)) else (none)) else (none))
def millhandlaw23_DagOrder.l1 : Nat → List Int → List Int → List Bool → Int → Int → List (S40) → List Int → Int → Int → Option (Bool)
 | 0, _, _, _, _, _, _, _, _, _ => none
 | k + 1, x4, x6, x8, x9, x11, x294000, x314000, x314001, x314002 => if x11 < (x314000.length : Int) then (if 0 ≤ x11 then (if 0 ≤ (rd x314000 x11) then (if (rd x314000 x11) < (x8.length : Int) then (if (rdOf false x8 (rd x314000 x11) = true) then (if (rd x314000 x11) < (x6.length : Int) then (if 0 ≤ x9 then (if x9 < (x4.length : Int) then (if 0 ≤ (rd x4 x9) then (if (rd x4 x9) < (x6.length : Int) then (if (rd x6 (rd x314000 x11)) ≥ (rd x6 (rd x4 x9)) then (some false) else (millhandlaw23_DagOrder.l1 k x4 x6 x8 x9 (wrap64 (x11 + 1)) x294000 x314000 x314001 x314002)) else (none)) else (none)) else (none)) else (none)) else (none)) else (some false)) else (none)) else (none)) else (none)) else (if 0 ≤ x9 then (if x9 < (x4.length : Int) then (if 0 ≤ (rd x4 x9) then (if (rd x4 x9) < (x8.length : Int) then (if (rd x4 x9) < (x6.length : Int) then (if (rd x6 (rd x4 x9)) < 1 then (some false) else (if (rd x6 (rd x4 x9)) > (x4.length : Int) then (some false) else (millhandlaw23_DagOrder.l0 k x4 x6 (x8.set ((rd x4 x9) : Int).toNat true) (wrap64 (x9 + 1)) x294000))) else (none)) else (none)) else (none)) else (none)) else (none))
end
def millhandlaw23_DagOrder.f (k : Nat) (l0_0 : List (S40)) : Option (Bool) := (millhandlaw23_alive.f k).bind fun t294 => ((millhandref23_Great.f k l0_0).bind fun t295 => (if t295 = true then (millhandlaw23_DagOrder.j0 k t294 true l0_0) else (millhandlaw23_DagOrder.j0 k t294 (!t294) l0_0)))
theorem millhandlaw23_DagOrder.mono_l : ∀ k, (∀ y0 y1 y2, LeO (millhandlaw23_DagOrder.j0 k y0 y1 y2) (millhandlaw23_DagOrder.j0 (k + 1) y0 y1 y2)) ∧ (∀ y0 y1 y2 y3 y4 y5, LeO (millhandlaw23_DagOrder.j1 k y0 y1 y2 y3 y4 y5) (millhandlaw23_DagOrder.j1 (k + 1) y0 y1 y2 y3 y4 y5)) ∧ (∀ y0 y1 y2 y3, LeO (millhandlaw23_DagOrder.j2 k y0 y1 y2 y3) (millhandlaw23_DagOrder.j2 (k + 1) y0 y1 y2 y3)) ∧ (∀ y0 y1 y2 y3 y4, LeO (millhandlaw23_DagOrder.l0 k y0 y1 y2 y3 y4) (millhandlaw23_DagOrder.l0 (k + 1) y0 y1 y2 y3 y4)) ∧ (∀ y0 y1 y2 y3 y4 y5, LeO (millhandlaw23_DagOrder.j4 k y0 y1 y2 y3 y4 y5) (millhandlaw23_DagOrder.j4 (k + 1) y0 y1 y2 y3 y4 y5)) ∧ (∀ y0 y1 y2 y3 y4 y5 y6 y7 y8, LeO (millhandlaw23_DagOrder.l1 k y0 y1 y2 y3 y4 y5 y6 y7 y8) (millhandlaw23_DagOrder.l1 (k + 1) y0 y1 y2 y3 y4 y5 y6 y7 y8))
 | 0 => ⟨fun _ _ _ r h => by simp [millhandlaw23_DagOrder.j0] at h, fun _ _ _ _ _ _ r h => by simp [millhandlaw23_DagOrder.j1] at h, fun _ _ _ _ r h => by simp [millhandlaw23_DagOrder.j2] at h, fun _ _ _ _ _ r h => by simp [millhandlaw23_DagOrder.l0] at h, fun _ _ _ _ _ _ r h => by simp [millhandlaw23_DagOrder.j4] at h, fun _ _ _ _ _ _ _ _ _ r h => by simp [millhandlaw23_DagOrder.l1] at h⟩
 | k + 1 => by
  obtain ⟨ih0, ih1, ih2, ih3, ih4, ih5⟩ := millhandlaw23_DagOrder.mono_l k
  refine ⟨?_, ?_, ?_, ?_, ?_, ?_⟩
  ·
   intro y0 y1 y2
   unfold millhandlaw23_DagOrder.j0
   repeat' first
   | (with_reducible exact ih0 _ _ _)
   | (with_reducible exact ih1 _ _ _ _ _ _)
   | (with_reducible exact ih2 _ _ _ _)
   | (with_reducible exact ih3 _ _ _ _ _)
   | (with_reducible exact ih4 _ _ _ _ _ _)
   | (with_reducible exact ih5 _ _ _ _ _ _ _ _ _)
   | (with_reducible exact dag_Depth.mono _ _)
   | (with_reducible exact dag_Order.mono _ _)
   | (with_reducible exact millhandlaw23_alive.mono _)
   | (with_reducible exact millhandref23_Great.mono _ _)
   | (with_reducible exact LeO.refl _)
   | (with_reducible exact LeO.none _)
   | (with_reducible refine LeO.ite ?_ ?_)
   | (with_reducible refine LeO.bind ?_ (fun _ => ?_))
   | exact ih0 _ _ _
   | exact ih1 _ _ _ _ _ _
   | exact ih2 _ _ _ _
   | exact ih3 _ _ _ _ _
   | exact ih4 _ _ _ _ _ _
   | exact ih5 _ _ _ _ _ _ _ _ _
   | exact dag_Depth.mono _ _
   | exact dag_Order.mono _ _
   | exact millhandlaw23_alive.mono _
   | exact millhandref23_Great.mono _ _
   | exact LeO.none _
   | refine LeO.ite ?_ ?_
   | refine LeO.bind ?_ (fun _ => ?_)
  ·
   intro y0 y1 y2 y3 y4 y5
   unfold millhandlaw23_DagOrder.j1
   repeat' first
   | (with_reducible exact ih0 _ _ _)
   | (with_reducible exact ih1 _ _ _ _ _ _)
   | (with_reducible exact ih2 _ _ _ _)
   | (with_reducible exact ih3 _ _ _ _ _)
   | (with_reducible exact ih4 _ _ _ _ _ _)
   | (with_reducible exact ih5 _ _ _ _ _ _ _ _ _)
   | (with_reducible exact dag_Depth.mono _ _)
   | (with_reducible exact dag_Order.mono _ _)
   | (with_reducible exact millhandlaw23_alive.mono _)
   | (with_reducible exact millhandref23_Great.mono _ _)
   | (with_reducible exact LeO.refl _)
   | (with_reducible exact LeO.none _)
   | (with_reducible refine LeO.ite ?_ ?_)
   | (with_reducible refine LeO.bind ?_ (fun _ => ?_))
   | exact ih0 _ _ _
   | exact ih1 _ _ _ _ _ _
   | exact ih2 _ _ _ _
   | exact ih3 _ _ _ _ _
   | exact ih4 _ _ _ _ _ _
   | exact ih5 _ _ _ _ _ _ _ _ _
   | exact dag_Depth.mono _ _
   | exact dag_Order.mono _ _
   | exact millhandlaw23_alive.mono _
   | exact millhandref23_Great.mono _ _
   | exact LeO.none _
   | refine LeO.ite ?_ ?_
   | refine LeO.bind ?_ (fun _ => ?_)
  ·
   intro y0 y1 y2 y3
   unfold millhandlaw23_DagOrder.j2
   repeat' first
   | (with_reducible exact ih0 _ _ _)
   | (with_reducible exact ih1 _ _ _ _ _ _)
   | (with_reducible exact ih2 _ _ _ _)
   | (with_reducible exact ih3 _ _ _ _ _)
   | (with_reducible exact ih4 _ _ _ _ _ _)
   | (with_reducible exact ih5 _ _ _ _ _ _ _ _ _)
   | (with_reducible exact dag_Depth.mono _ _)
   | (with_reducible exact dag_Order.mono _ _)
   | (with_reducible exact millhandlaw23_alive.mono _)
   | (with_reducible exact millhandref23_Great.mono _ _)
   | (with_reducible exact LeO.refl _)
   | (with_reducible exact LeO.none _)
   | (with_reducible refine LeO.ite ?_ ?_)
   | (with_reducible refine LeO.bind ?_ (fun _ => ?_))
   | exact ih0 _ _ _
   | exact ih1 _ _ _ _ _ _
   | exact ih2 _ _ _ _
   | exact ih3 _ _ _ _ _
   | exact ih4 _ _ _ _ _ _
   | exact ih5 _ _ _ _ _ _ _ _ _
   | exact dag_Depth.mono _ _
   | exact dag_Order.mono _ _
   | exact millhandlaw23_alive.mono _
   | exact millhandref23_Great.mono _ _
   | exact LeO.none _
   | refine LeO.ite ?_ ?_
   | refine LeO.bind ?_ (fun _ => ?_)
  ·
   intro y0 y1 y2 y3 y4
   unfold millhandlaw23_DagOrder.l0
   repeat' first
   | (with_reducible exact ih0 _ _ _)
   | (with_reducible exact ih1 _ _ _ _ _ _)
   | (with_reducible exact ih2 _ _ _ _)
   | (with_reducible exact ih3 _ _ _ _ _)
   | (with_reducible exact ih4 _ _ _ _ _ _)
   | (with_reducible exact ih5 _ _ _ _ _ _ _ _ _)
   | (with_reducible exact dag_Depth.mono _ _)
   | (with_reducible exact dag_Order.mono _ _)
   | (with_reducible exact millhandlaw23_alive.mono _)
   | (with_reducible exact millhandref23_Great.mono _ _)
   | (with_reducible exact LeO.refl _)
   | (with_reducible exact LeO.none _)
   | (with_reducible refine LeO.ite ?_ ?_)
   | (with_reducible refine LeO.bind ?_ (fun _ => ?_))
   | exact ih0 _ _ _
   | exact ih1 _ _ _ _ _ _
   | exact ih2 _ _ _ _
   | exact ih3 _ _ _ _ _
   | exact ih4 _ _ _ _ _ _
   | exact ih5 _ _ _ _ _ _ _ _ _
   | exact dag_Depth.mono _ _
   | exact dag_Order.mono _ _
   | exact millhandlaw23_alive.mono _
   | exact millhandref23_Great.mono _ _
   | exact LeO.none _
   | refine LeO.ite ?_ ?_
   | refine LeO.bind ?_ (fun _ => ?_)
  ·
   intro y0 y1 y2 y3 y4 y5
   unfold millhandlaw23_DagOrder.j4
   repeat' first
   | (with_reducible exact ih0 _ _ _)
   | (with_reducible exact ih1 _ _ _ _ _ _)
   | (with_reducible exact ih2 _ _ _ _)
   | (with_reducible exact ih3 _ _ _ _ _)
   | (with_reducible exact ih4 _ _ _ _ _ _)
   | (with_reducible exact ih5 _ _ _ _ _ _ _ _ _)
   | (with_reducible exact dag_Depth.mono _ _)
   | (with_reducible exact dag_Order.mono _ _)
   | (with_reducible exact millhandlaw23_alive.mono _)
   | (with_reducible exact millhandref23_Great.mono _ _)
   | (with_reducible exact LeO.refl _)
   | (with_reducible exact LeO.none _)
   | (with_reducible refine LeO.ite ?_ ?_)
   | (with_reducible refine LeO.bind ?_ (fun _ => ?_))
   | exact ih0 _ _ _
   | exact ih1 _ _ _ _ _ _
   | exact ih2 _ _ _ _
   | exact ih3 _ _ _ _ _
   | exact ih4 _ _ _ _ _ _
   | exact ih5 _ _ _ _ _ _ _ _ _
   | exact dag_Depth.mono _ _
   | exact dag_Order.mono _ _
   | exact millhandlaw23_alive.mono _
   | exact millhandref23_Great.mono _ _
   | exact LeO.none _
   | refine LeO.ite ?_ ?_
   | refine LeO.bind ?_ (fun _ => ?_)
  ·
   intro y0 y1 y2 y3 y4 y5 y6 y7 y8
   unfold millhandlaw23_DagOrder.l1
   repeat' first
   | (with_reducible exact ih0 _ _ _)
   | (with_reducible exact ih1 _ _ _ _ _ _)
   | (with_reducible exact ih2 _ _ _ _)
   | (with_reducible exact ih3 _ _ _ _ _)
   | (with_reducible exact ih4 _ _ _ _ _ _)
   | (with_reducible exact ih5 _ _ _ _ _ _ _ _ _)
   | (with_reducible exact dag_Depth.mono _ _)
   | (with_reducible exact dag_Order.mono _ _)
   | (with_reducible exact millhandlaw23_alive.mono _)
   | (with_reducible exact millhandref23_Great.mono _ _)
   | (with_reducible exact LeO.refl _)
   | (with_reducible exact LeO.none _)
   | (with_reducible refine LeO.ite ?_ ?_)
   | (with_reducible refine LeO.bind ?_ (fun _ => ?_))
   | exact ih0 _ _ _
   | exact ih1 _ _ _ _ _ _
   | exact ih2 _ _ _ _
   | exact ih3 _ _ _ _ _
   | exact ih4 _ _ _ _ _ _
   | exact ih5 _ _ _ _ _ _ _ _ _
   | exact dag_Depth.mono _ _
   | exact dag_Order.mono _ _
   | exact millhandlaw23_alive.mono _
   | exact millhandref23_Great.mono _ _
   | exact LeO.none _
   | refine LeO.ite ?_ ?_
   | refine LeO.bind ?_ (fun _ => ?_)
theorem millhandlaw23_DagOrder.mono : ∀ a0 k, LeO (millhandlaw23_DagOrder.f k a0) (millhandlaw23_DagOrder.f (k + 1) a0) := by
 intro a0 k
 obtain ⟨ih0, ih1, ih2, ih3, ih4, ih5⟩ := millhandlaw23_DagOrder.mono_l k
 unfold millhandlaw23_DagOrder.f
 repeat' first
   | (with_reducible exact ih0 _ _ _)
   | (with_reducible exact ih1 _ _ _ _ _ _)
   | (with_reducible exact ih2 _ _ _ _)
   | (with_reducible exact ih3 _ _ _ _ _)
   | (with_reducible exact ih4 _ _ _ _ _ _)
   | (with_reducible exact ih5 _ _ _ _ _ _ _ _ _)
   | (with_reducible exact dag_Depth.mono _ _)
   | (with_reducible exact dag_Order.mono _ _)
   | (with_reducible exact millhandlaw23_alive.mono _)
   | (with_reducible exact millhandref23_Great.mono _ _)
   | (with_reducible exact LeO.refl _)
   | (with_reducible exact LeO.none _)
   | (with_reducible refine LeO.ite ?_ ?_)
   | (with_reducible refine LeO.bind ?_ (fun _ => ?_))
   | exact ih0 _ _ _
   | exact ih1 _ _ _ _ _ _
   | exact ih2 _ _ _ _
   | exact ih3 _ _ _ _ _
   | exact ih4 _ _ _ _ _ _
   | exact ih5 _ _ _ _ _ _ _ _ _
   | exact dag_Depth.mono _ _
   | exact dag_Order.mono _ _
   | exact millhandlaw23_alive.mono _
   | exact millhandref23_Great.mono _ _
   | exact LeO.none _
   | refine LeO.ite ?_ ?_
   | refine LeO.bind ?_ (fun _ => ?_)
def millhandlaw23_DagOrder.T16 : Bool × List (List Nat × List Nat) := (true, [([], []), ([0], [0]), ([], []), ([], []), ([2, 3], [2, 3]), ([4], [4]), ([1, 5], [1, 5]), ([6], [6]), ([], []), ([8, 7, 0, 1, 2, 3, 4, 5, 6, 7, 8], [7, 8])])
def millhandlaw23_DagOrder.B16 : List Nat := [0, 1, 0, 0, 12, 28, 63, 127, 0, 511]
theorem millhandlaw23_DagOrder.tab16 : rtab .any (opsOf Try.f4 16) = millhandlaw23_DagOrder.T16 := by kernel_rfl
theorem millhandlaw23_DagOrder.bits16 : waitsOk millhandlaw23_DagOrder.T16.2 millhandlaw23_DagOrder.B16 = true := by kernel_rfl
def millhandlaw23_DagOrder.T20 : Bool × List (List Nat × List Nat) := (true, [([], []), ([], []), ([1], [1]), ([], []), ([2, 3], [2, 3]), ([4], [4]), ([0, 5], [0, 5]), ([6], [6]), ([7], [7]), ([8], [8]), ([9], [9]), ([9], [9]), ([11, 9], [9, 11]), ([9], [9]), ([12, 13, 9], [9, 12, 13]), ([14, 9], [9, 14]), ([10, 15, 9], [9, 10, 15]), ([16, 9], [9, 16]), ([9], [9]), ([9], [9]), ([9], [9]), ([19, 20, 9], [9, 19, 20]), ([21, 9], [9, 21]), ([18, 22, 9], [9, 18, 22]), ([23, 9], [9, 23]), ([17, 24, 9], [9, 17, 24]), ([9, 25], [9, 25])])
def millhandlaw23_DagOrder.B20 : List Nat := [0, 0, 2, 0, 14, 30, 63, 127, 255, 511, 1023, 1023, 3071, 1023, 15359, 31743, 65535, 131071, 1023, 1023, 1023, 1573887, 3671039, 8127487, 16516095, 33554431, 67108863]
theorem millhandlaw23_DagOrder.tab20 : rtab .any (opsOf Try.f4 20) = millhandlaw23_DagOrder.T20 := by kernel_rfl
theorem millhandlaw23_DagOrder.bits20 : waitsOk millhandlaw23_DagOrder.T20.2 millhandlaw23_DagOrder.B20 = true := by kernel_rfl
set_option maxHeartbeats 8000000 in
set_option maxRecDepth 100000 in
theorem millhandlaw23_DagOrder.calls (k : Nat) (A0_0 : Option Addr) (c0_0 : Nat) (l0_0 : List (S40)) (r : Bool) (w : World) (hr0_0 : Kd.C k40 w A0_0 l0_0.length l0_0) (hc0_0 : l0_0.length ≤ c0_0) (h : millhandlaw23_DagOrder.f k l0_0 = some r) :
  Calls Try.prog 4 #[.agg #[.slice A0_0 l0_0.length c0_0]] w fun e w' => e = .returned (.bool r) ∧ Below w.heap.size w w' := by
 have hu25 := Try.underlying25
 have hu40 := Try.underlying40
 have HR0_0 := Aside0.mk hr0_0
 have HC0_0 := Aside0.mk hc0_0
 clear hr0_0 hc0_0
 have HB := Aside0.mk (Below.refl w.heap.size w)
 have H : ((millhandlaw23_alive.f k).bind fun t294 => ((millhandref23_Great.f k l0_0).bind fun t295 => (if t295 = true then (millhandlaw23_DagOrder.j0 k t294 true l0_0) else (millhandlaw23_DagOrder.j0 k t294 (!t294) l0_0)))) = some r := h
 clear h
 replace H := Option.bind_eq_some_iff.mp H
 obtain ⟨t294, A20, H⟩ := H
 replace H : ((millhandref23_Great.f k l0_0).bind fun t295 => (if t295 = true then (millhandlaw23_DagOrder.j0 k t294 true l0_0) else (millhandlaw23_DagOrder.j0 k t294 (!t294) l0_0))) = some r := H
 have A2 := Aside0.mk A20
 clear A20
 have HC3 := Aside0.mk H
 clear H
 go_enter Try.func4, Try.ntmps4
 go_upto_region 2 with (first | ((with_reducible refine gate_dst (N := 1) rfl ?_); (try (refine gate_guard (by rfl) ?_; dsimp only)); refine box_event ?hg (N := 1) ?hd (cs := #[.slice A0_0 l0_0.length c0_0]) (t := 25) ?hr ?_; (case hd => rfl); (case hg => rfl); (case hr => first | (go_simp; done) | (go_simp; rfl)); intro gb293 hg w4 hbox hb; have n0_ := Aside0.mk (below_step (by repeat (first | (with_reducible first | exact HB.out | apply below_alloc | apply pw_below_drewN | apply below_drew1) | exact HB.out)) hb); have n1_ := Aside0.mk (hbox); have n2_ := Aside0.mk ((by rw [hg]; exact (below_size (by repeat (first | (with_reducible first | exact HB.out | apply below_alloc | apply pw_below_drewN | apply below_drew1) | exact HB.out))) : w.heap.size ≤ gb293)); have n3_ := Aside0.mk ((by rw [hg]; exact (below_size (by repeat (first | (with_reducible first | exact HB.out | apply below_alloc | apply pw_below_drewN | apply below_drew1) | exact HB.out))) : w.heap.size ≤ gb293)); clear HB; have HB := n0_; have BK293 := n1_; have GW293 := n2_; have GE293 := n3_; clear n0_ n1_ n2_ n3_; clear hb hbox hg) | ((with_reducible refine gate_callee (f := 12) rfl ?_); refine goesL_ (some 12) rfl rfl Try.func12 (by kernel_rfl) rfl #[] rfl (by (try simp only [List.map_toArray, List.map_cons, List.map_nil]); first | done | rfl | (simp only [List.length_drop, List.length_take]; rfl)) ?_; (with_reducible refine (millhandlaw23_alive.calls k  t294 _ A2.out).mono ?_); rintro e w5 ⟨rfl, hb⟩; refine ⟨_, rfl, ?_⟩; have n0_ := Aside0.mk (blk_below (g := gb293) (o := .cells #[.slice A0_0 l0_0.length c0_0] 25 (0, 0)) (by (with_reducible repeat (first | refine blk_drewN ?_ _ | refine blk_drew ?_ | refine blk_alloc ?_ _)); exact BK293.out) hb); have n1_ := Aside0.mk (below_step (by repeat (first | (with_reducible first | exact HB.out | apply below_alloc | apply pw_below_drewN | apply below_drew1 | refine below_set ?_ GE293.out) | exact HB.out)) hb); clear BK293; clear HB; have BK293 := n0_; have HB := n1_; clear n0_ n1_; (try clear hb); (try clear hb2); (try clear hk); (try clear hi)))
 (try simp only [Act.put, sa_, s0_, s1_])
 go_cut [18] (fun v18 wc => ∃ (kq : Nat) (x18_2 : Bool), v18 = .bool x18_2 ∧ Aside0 (millhandlaw23_DagOrder.j0 kq t294 x18_2 l0_0 = some r) ∧ Aside0 (kq ≤ k) ∧ Aside0 (wc.heap[gb293]? = some (.cells #[(.slice A0_0 l0_0.length c0_0)] 25 (0, 0))) ∧ Aside0 (Below w.heap.size w wc))
 case first =>
  have H := HC3.out
  clear HC3
  replace H := Option.bind_eq_some_iff.mp H
  obtain ⟨t295, A60, H⟩ := H
  replace H : (if t295 = true then (millhandlaw23_DagOrder.j0 k t294 true l0_0) else (millhandlaw23_DagOrder.j0 k t294 (!t294) l0_0)) = some r := H
  have A6 := Aside0.mk A60
  clear A60
  by_cases c7 : t295 = true
  ·
   subst c7
   have H1 : (millhandlaw23_DagOrder.j0 k t294 true l0_0) = some r := by rw [if_pos rfl] at H; exact H
   clear H
   have H := H1
   clear H1
   have H' := Aside0.mk H
   clear H
   have hcz8_0 : w5.cell? ⟨gb293, 0, none⟩ = some (.slice A0_0 l0_0.length c0_0) := (blk_cell BK293.out 0).trans rfl
   have hfz8_0 := blk_frozen BK293.out 0
   go_wp2_with (first | ((with_reducible refine gate_callee (f := 13) rfl ?_); refine goesL_ (some 14) rfl rfl Try.func13 (by kernel_rfl) rfl #[.agg #[.slice A0_0 l0_0.length c0_0]] rfl (by (try simp only [List.map_toArray, List.map_cons, List.map_nil]); first | done | rfl | (simp only [List.length_drop, List.length_take]; rfl)) ?_; (with_reducible refine (millhandref23_Great.calls k _ _ l0_0 true _ ?side1 ?side2 A6.out).mono ?_); (case side1 => repeat (first | exact (Kd.C_below HR0_0.out HB.out) | (with_reducible refine Kd.C_alloc ?_ _) | (with_reducible refine Kd.C_drewN ?_ _) | (with_reducible refine Kd.C_drew ?_))); (case side2 => exact HC0_0.out); rintro e w9 ⟨rfl, hb⟩; refine ⟨_, rfl, ?_⟩; have n0_ := Aside0.mk (blk_below (g := gb293) (o := .cells #[.slice A0_0 l0_0.length c0_0] 25 (0, 0)) (by (with_reducible repeat (first | refine blk_drewN ?_ _ | refine blk_drew ?_ | refine blk_alloc ?_ _)); exact BK293.out) hb); have n1_ := Aside0.mk (below_step (by repeat (first | (with_reducible first | exact HB.out | apply below_alloc | apply pw_below_drewN | apply below_drew1 | refine below_set ?_ GE293.out) | exact HB.out)) hb); clear BK293; clear HB; have BK293 := n0_; have HB := n1_; clear n0_ n1_; (try clear hb); (try clear hb2); (try clear hk); (try clear hi)))
   go_meet
   case rel => exact ⟨_, (true), (by first | rfl | (simp; done) | (simp [*]; done)), H', ⟨by first | omega | exact Nat.le_refl _⟩, ⟨by (with_reducible repeat (first | refine blk_drewN ?_ _ | refine blk_drew ?_ | refine blk_alloc ?_ _)); exact BK293.out⟩, ⟨by repeat (first | (with_reducible first | exact HB.out | apply below_alloc | apply pw_below_drewN | apply below_drew1 | refine below_set ?_ GE293.out) | exact HB.out)⟩⟩
  ·
   replace c7 := Bool.eq_false_iff.mpr c7
   subst c7
   have H1 : (millhandlaw23_DagOrder.j0 k t294 (!t294) l0_0) = some r := by rw [if_neg (show ¬ (false = true) by decide)] at H; exact H
   clear H
   have H := H1
   clear H1
   have H' := Aside0.mk H
   clear H
   have hcz10_0 : w5.cell? ⟨gb293, 0, none⟩ = some (.slice A0_0 l0_0.length c0_0) := (blk_cell BK293.out 0).trans rfl
   have hfz10_0 := blk_frozen BK293.out 0
   go_wp2_with (first | ((with_reducible refine gate_callee (f := 13) rfl ?_); refine goesL_ (some 14) rfl rfl Try.func13 (by kernel_rfl) rfl #[.agg #[.slice A0_0 l0_0.length c0_0]] rfl (by (try simp only [List.map_toArray, List.map_cons, List.map_nil]); first | done | rfl | (simp only [List.length_drop, List.length_take]; rfl)) ?_; (with_reducible refine (millhandref23_Great.calls k _ _ l0_0 false _ ?side1 ?side2 A6.out).mono ?_); (case side1 => repeat (first | exact (Kd.C_below HR0_0.out HB.out) | (with_reducible refine Kd.C_alloc ?_ _) | (with_reducible refine Kd.C_drewN ?_ _) | (with_reducible refine Kd.C_drew ?_))); (case side2 => exact HC0_0.out); rintro e w11 ⟨rfl, hb⟩; refine ⟨_, rfl, ?_⟩; have n0_ := Aside0.mk (blk_below (g := gb293) (o := .cells #[.slice A0_0 l0_0.length c0_0] 25 (0, 0)) (by (with_reducible repeat (first | refine blk_drewN ?_ _ | refine blk_drew ?_ | refine blk_alloc ?_ _)); exact BK293.out) hb); have n1_ := Aside0.mk (below_step (by repeat (first | (with_reducible first | exact HB.out | apply below_alloc | apply pw_below_drewN | apply below_drew1 | refine below_set ?_ GE293.out) | exact HB.out)) hb); clear BK293; clear HB; have BK293 := n0_; have HB := n1_; clear n0_ n1_; (try clear hb); (try clear hb2); (try clear hk); (try clear hi)))
   go_meet
   case rel => exact ⟨_, (!t294), (by first | rfl | (simp; done) | (simp [*]; done)), H', ⟨by first | omega | exact Nat.le_refl _⟩, ⟨by (with_reducible repeat (first | refine blk_drewN ?_ _ | refine blk_drew ?_ | refine blk_alloc ?_ _)); exact BK293.out⟩, ⟨by repeat (first | (with_reducible first | exact HB.out | apply below_alloc | apply pw_below_drewN | apply below_drew1 | refine below_set ?_ GE293.out) | exact HB.out)⟩⟩
 case rest =>
  clear HC3
  try clear c1
  try clear p2
  try clear c4
  try clear c7
  try clear hcz10_0
  try clear hcz8_0
  try clear hfz10_0
  try clear hfz8_0
  obtain ⟨kq, x18_2, rfl, HA, HJ2, BK293, HB⟩ := hcut
  cases kq with
  | zero => exact absurd HA.out (by simp [millhandlaw23_DagOrder.j0])
  | succ kj2 =>
   have H := HA.out
   clear HA
   simp only [millhandlaw23_DagOrder.j0] at H
   by_cases c12 : x18_2 = true
   ·
    subst c12
    have H1 : (some t294) = some r := by rw [if_pos rfl] at H; exact H
    clear H
    have H := H1
    clear H1
    obtain rfl := Option.some.inj H
    go_wp2
    go_ret
    exact ⟨by first | rfl | (simp [errW_none, errW_some] <;> rfl) | (simp [*, errW_none, errW_some] <;> rfl) | exact ret_ie _ | (simp [*, errW_none, errW_some, bne]; done), by repeat (first | (with_reducible first | exact HB.out | apply below_alloc | apply pw_below_drewN | apply below_drew1 | refine below_set ?_ GE293.out) | exact HB.out)⟩
   ·
    replace c12 := Bool.eq_false_iff.mpr c12
    subst c12
    have H1 : ((dag_Order.f kj2 l0_0).bind fun bt296 => ((dag_Depth.f kj2 l0_0).bind fun bt300 => (if bt296.2 = 0 then (millhandlaw23_DagOrder.j1 kj2 bt296.1 bt296.2 bt300.1 bt300.2 (bt300.2 != 0) l0_0) else (millhandlaw23_DagOrder.j1 kj2 bt296.1 bt296.2 bt300.1 bt300.2 true l0_0)))) = some r := by rw [if_neg (show ¬ (false = true) by decide)] at H; exact H
    clear H
    have H := H1
    clear H1
    replace H := Option.bind_eq_some_iff.mp H
    obtain ⟨⟨t296, t299⟩, A130, H⟩ := H
    replace H : ((dag_Depth.f kj2 l0_0).bind fun bt300 => (if t299 = 0 then (millhandlaw23_DagOrder.j1 kj2 t296 t299 bt300.1 bt300.2 (bt300.2 != 0) l0_0) else (millhandlaw23_DagOrder.j1 kj2 t296 t299 bt300.1 bt300.2 true l0_0))) = some r := H
    have A13 := Aside0.mk A130
    clear A130
    replace H := Option.bind_eq_some_iff.mp H
    obtain ⟨⟨t300, t303⟩, A140, H⟩ := H
    replace H : (if t299 = 0 then (millhandlaw23_DagOrder.j1 kj2 t296 t299 t300 t303 (t303 != 0) l0_0) else (millhandlaw23_DagOrder.j1 kj2 t296 t299 t300 t303 true l0_0)) = some r := H
    have A14 := Aside0.mk A140
    clear A140
    have HC15 := Aside0.mk H
    clear H
    have hcz16_0 : wc.cell? ⟨gb293, 0, none⟩ = some (.slice A0_0 l0_0.length c0_0) := (blk_cell BK293.out 0).trans rfl
    have hfz16_0 := blk_frozen BK293.out 0
    go_upto_region 6 with (first | ((with_reducible refine gate_callee (f := 14) rfl ?_); refine goesL_ (some 22) rfl rfl Try.func14 (by kernel_rfl) rfl #[.agg #[.slice A0_0 l0_0.length c0_0]] rfl (by (try simp only [List.map_toArray, List.map_cons, List.map_nil]); first | done | rfl | (simp only [List.length_drop, List.length_take]; rfl)) ?_; (with_reducible refine (dag_Order.calls kj2 _ _ l0_0 t296 t299 _ ?side1 ?side2 A13.out).mono ?_); (case side1 => repeat (first | exact (Kd.C_below HR0_0.out HB.out) | (with_reducible refine Kd.C_alloc ?_ _) | (with_reducible refine Kd.C_drewN ?_ _) | (with_reducible refine Kd.C_drew ?_))); (case side2 => exact HC0_0.out); rintro e w17 ⟨v297, rfl, ho0, hb⟩; refine ⟨_, rfl, ?_⟩; have n0_ := Aside0.mk (Kd.R_lower ho0 (below_size (by repeat (first | (with_reducible first | exact HB.out | apply below_alloc | apply pw_below_drewN | apply below_drew1 | refine below_set ?_ GE293.out) | exact HB.out)))); have n1_ := Aside0.mk (blk_below (g := gb293) (o := .cells #[.slice A0_0 l0_0.length c0_0] 25 (0, 0)) (by (with_reducible repeat (first | refine blk_drewN ?_ _ | refine blk_drew ?_ | refine blk_alloc ?_ _)); exact BK293.out) hb); have n2_ := Aside0.mk (below_step (by repeat (first | (with_reducible first | exact HB.out | apply below_alloc | apply pw_below_drewN | apply below_drew1 | refine below_set ?_ GE293.out) | exact HB.out)) hb); clear BK293; clear HB; have HO298 := n0_; have BK293 := n1_; have HB := n2_; clear n0_ n1_ n2_; (try clear hb); (try clear hb2); (try clear hk); (try clear hi); (try clear ho0); have hcz18_0 : w17.cell? ⟨gb293, 0, none⟩ = some (.slice A0_0 l0_0.length c0_0) := (blk_cell BK293.out 0).trans rfl; have hfz18_0 := blk_frozen BK293.out 0) | ((with_reducible refine gate_callee (f := 15) rfl ?_); refine goesL_ (some 27) rfl rfl Try.func15 (by kernel_rfl) rfl #[.agg #[.slice A0_0 l0_0.length c0_0]] rfl (by (try simp only [List.map_toArray, List.map_cons, List.map_nil]); first | done | rfl | (simp only [List.length_drop, List.length_take]; rfl)) ?_; (with_reducible refine (dag_Depth.calls kj2 _ _ l0_0 t300 t303 _ ?side1 ?side2 A14.out).mono ?_); (case side1 => repeat (first | exact (Kd.C_below HR0_0.out HB.out) | (with_reducible refine Kd.C_alloc ?_ _) | (with_reducible refine Kd.C_drewN ?_ _) | (with_reducible refine Kd.C_drew ?_))); (case side2 => exact HC0_0.out); rintro e w19 ⟨v301, rfl, ho0, hb⟩; refine ⟨_, rfl, ?_⟩; have n0_ := Aside0.mk (Kd.R_elder' (by (with_reducible repeat (first | apply Kd.R_alloc | apply Kd.R_drewN | apply Kd.R_drew)); exact HO298.out) (Kd.R_base ho0) hb); have n1_ := Aside0.mk (Kd.R_lower (Kd.R_new' ho0 (Kd.R_lt (by (with_reducible repeat (first | apply Kd.R_alloc | apply Kd.R_drewN | apply Kd.R_drew)); exact HO298.out))) (below_size (by repeat (first | (with_reducible first | exact HB.out | apply below_alloc | apply pw_below_drewN | apply below_drew1 | refine below_set ?_ GE293.out) | exact HB.out)))); have n2_ := Aside0.mk (blk_below (g := gb293) (o := .cells #[.slice A0_0 l0_0.length c0_0] 25 (0, 0)) (by (with_reducible repeat (first | refine blk_drewN ?_ _ | refine blk_drew ?_ | refine blk_alloc ?_ _)); exact BK293.out) hb); have n3_ := Aside0.mk (below_step (by repeat (first | (with_reducible first | exact HB.out | apply below_alloc | apply pw_below_drewN | apply below_drew1 | refine below_set ?_ GE293.out) | exact HB.out)) hb); clear HO298; clear BK293; clear HB; have HO298 := n0_; have HO302 := n1_; have BK293 := n2_; have HB := n3_; clear n0_ n1_ n2_ n3_; (try clear hb); (try clear hb2); (try clear hk); (try clear hi); (try clear ho0)))
    (try simp only [Act.put, sa_, s0_, s1_])
    go_cut [35] (fun v35 wc => ∃ (kq : Nat) (x35_14 : Bool), v35 = .bool x35_14 ∧ Aside0 (millhandlaw23_DagOrder.j1 kq t296 t299 t300 t303 x35_14 l0_0 = some r) ∧ Aside0 (kq ≤ kj2) ∧ Aside0 (Kd.R (Kd.int .i64) 3 wc w.heap.size (fun k_ => some k_ ≠ (v301 : Value).ownBlock) v297 t296) ∧ Aside0 (Kd.R (Kd.int .i64) 3 wc w.heap.size (fun k_ => some k_ ≠ (v297 : Value).ownBlock) v301 t300) ∧ Aside0 (wc.heap[gb293]? = some (.cells #[(.slice A0_0 l0_0.length c0_0)] 25 (0, 0))) ∧ Aside0 (Below w.heap.size w wc))
    case first =>
     have H := HC15.out
     clear HC15
     by_cases c20 : t299 = 0
     ·
      rw [if_pos c20] at H
      have c20b0 : (t299 == 0) = true := beq_iff_eq.mpr c20
      have c20b1 : (t299 != 0) = false := bne_eq_false_iff_eq.mpr c20
      clear c20
      (first | rw [c20b0] | (simp only [i64_w, i32_w]; rw [c20b0]) | skip)
      have H' := Aside0.mk H
      clear H
      go_wp2
      go_meet
      case rel => exact ⟨_, ((t303 != 0)), (by first | rfl | (simp; done) | (simp [*]; done)), H', ⟨by have := HJ2.out; first | omega | exact Nat.le_refl _⟩, ⟨by (with_reducible repeat (first | apply Kd.R_alloc | apply Kd.R_drewN | apply Kd.R_drew)); exact Kd.R_mono HO298.out (fun _ hk => hk.2)⟩, ⟨by (with_reducible repeat (first | apply Kd.R_alloc | apply Kd.R_drewN | apply Kd.R_drew)); exact Kd.R_mono HO302.out (fun _ hk => hk.2)⟩, ⟨by (with_reducible repeat (first | refine blk_drewN ?_ _ | refine blk_drew ?_ | refine blk_alloc ?_ _)); exact BK293.out⟩, ⟨by repeat (first | (with_reducible first | exact HB.out | apply below_alloc | apply pw_below_drewN | apply below_drew1 | refine below_set ?_ GE293.out) | exact HB.out)⟩⟩
     ·
      rw [if_neg c20] at H
      have c20b0 : (t299 == 0) = false := beq_eq_false_iff_ne.mpr c20
      have c20b1 : (t299 != 0) = true := bne_iff_ne.mpr c20
      (first | rw [c20b0] | (simp only [i64_w, i32_w]; rw [c20b0]) | skip)
      have H' := Aside0.mk H
      clear H
      go_wp2
      go_meet
      case rel => exact ⟨_, (true), (by first | rfl | (simp; done) | (simp [*]; done)), H', ⟨by have := HJ2.out; first | omega | exact Nat.le_refl _⟩, ⟨by (with_reducible repeat (first | apply Kd.R_alloc | apply Kd.R_drewN | apply Kd.R_drew)); exact Kd.R_mono HO298.out (fun _ hk => hk.2)⟩, ⟨by (with_reducible repeat (first | apply Kd.R_alloc | apply Kd.R_drewN | apply Kd.R_drew)); exact Kd.R_mono HO302.out (fun _ hk => hk.2)⟩, ⟨by (with_reducible repeat (first | refine blk_drewN ?_ _ | refine blk_drew ?_ | refine blk_alloc ?_ _)); exact BK293.out⟩, ⟨by repeat (first | (with_reducible first | exact HB.out | apply below_alloc | apply pw_below_drewN | apply below_drew1 | refine below_set ?_ GE293.out) | exact HB.out)⟩⟩
    case rest =>
     clear HC15
     try clear c1
     try clear c2
     try clear p2
     try clear c4
     try clear c7
     try clear c12
     try clear c13
     try clear c14
     try clear c15
     try clear c20
     try clear c20b0
     try clear c20b1
     try clear hcz10_0
     try clear hcz16_0
     try clear hcz18_0
     try clear hcz8_0
     try clear hfz10_0
     try clear hfz16_0
     try clear hfz18_0
     try clear hfz8_0
     try clear p2
     obtain ⟨kq, x35_14, rfl, HA, HJ14, HO_4, HO_6, BK293, HB⟩ := hcut
     cases kq with
     | zero => exact absurd HA.out (by simp [millhandlaw23_DagOrder.j1])
     | succ kj14 =>
      have H := HA.out
      clear HA
      simp only [millhandlaw23_DagOrder.j1] at H
      by_cases c21 : x35_14 = true
      ·
       subst c21
       have H1 : (if t299 = t303 then (some ((t296.length : Int) == 0)) else (some false)) = some r := by rw [if_pos rfl] at H; exact H
       clear H
       have H := H1
       clear H1
       by_cases c22 : t299 = t303
       ·
        rw [if_pos c22] at H
        have c22b0 : (t299 == t303) = true := beq_iff_eq.mpr c22
        have c22b1 : (t299 != t303) = false := bne_eq_false_iff_eq.mpr c22
        clear c22
        obtain rfl := Option.some.inj H
        obtain ⟨Ao23, co23, eo23⟩ := Kd.R_slice HO_4.out
        subst eo23
        go_wp2
        go_ret
        exact ⟨by first | rfl | (simp [errW_none, errW_some] <;> rfl) | (simp [*, errW_none, errW_some] <;> rfl) | exact ret_ie _ | (simp [*, errW_none, errW_some, bne]; done), by repeat (first | (with_reducible first | exact HB.out | apply below_alloc | apply pw_below_drewN | apply below_drew1 | refine below_set ?_ GE293.out) | exact HB.out)⟩
       ·
        rw [if_neg c22] at H
        have c22b0 : (t299 == t303) = false := beq_eq_false_iff_ne.mpr c22
        have c22b1 : (t299 != t303) = true := bne_iff_ne.mpr c22
        obtain rfl := Option.some.inj H
        go_wp2
        go_ret
        exact ⟨by first | rfl | (simp [errW_none, errW_some] <;> rfl) | (simp [*, errW_none, errW_some] <;> rfl) | exact ret_ie _ | (simp [*, errW_none, errW_some, bne]; done), by repeat (first | (with_reducible first | exact HB.out | apply below_alloc | apply pw_below_drewN | apply below_drew1 | refine below_set ?_ GE293.out) | exact HB.out)⟩
      ·
       replace c21 := Bool.eq_false_iff.mpr c21
       subst c21
       have H1 : (if (t296.length : Int) = (l0_0.length : Int) then (millhandlaw23_DagOrder.j2 kj14 t296 t300 ((t300.length : Int) != (t296.length : Int)) l0_0) else (millhandlaw23_DagOrder.j2 kj14 t296 t300 true l0_0)) = some r := by rw [if_neg (show ¬ (false = true) by decide)] at H; exact H
       clear H
       have H := H1
       clear H1
       have HC24 := Aside0.mk H
       clear H
       go_upto_region 8 with (fail)
       go_cut [56] (fun v56 wc => ∃ (kq : Nat) (x56_23 : Bool), v56 = .bool x56_23 ∧ Aside0 (millhandlaw23_DagOrder.j2 kq t296 t300 x56_23 l0_0 = some r) ∧ Aside0 (kq ≤ kj14) ∧ Aside0 (Kd.R (Kd.int .i64) 3 wc w.heap.size (fun k_ => some k_ ≠ (v301 : Value).ownBlock) v297 t296) ∧ Aside0 (Kd.R (Kd.int .i64) 3 wc w.heap.size (fun k_ => some k_ ≠ (v297 : Value).ownBlock) v301 t300) ∧ Aside0 (wc.heap[gb293]? = some (.cells #[(.slice A0_0 l0_0.length c0_0)] 25 (0, 0))) ∧ Aside0 (Below w.heap.size w wc))
       case first =>
        have H := HC24.out
        clear HC24
        by_cases c25 : (t296.length : Int) = (l0_0.length : Int)
        ·
         rw [if_pos c25] at H
         have c25b0 : ((t296.length : Int) == (l0_0.length : Int)) = true := beq_iff_eq.mpr c25
         have c25b1 : ((t296.length : Int) != (l0_0.length : Int)) = false := bne_eq_false_iff_eq.mpr c25
         have c25b2 : (t296.length == l0_0.length) = true := by first | simpa using c25 | (simp at c25 ⊢; omega)
         clear c25
         (first | rw [c25b0] | (simp only [i64_w, i32_w]; rw [c25b0]) | skip)
         have H' := Aside0.mk H
         clear H
         obtain ⟨Ao26, co26, eo26⟩ := Kd.R_slice HO_4.out
         subst eo26
         have hcz27_0 : wc.cell? ⟨gb293, 0, none⟩ = some (.slice A0_0 l0_0.length c0_0) := (blk_cell BK293.out 0).trans rfl
         have hfz27_0 := blk_frozen BK293.out 0
         obtain ⟨Ao28, co28, eo28⟩ := Kd.R_slice HO_6.out
         subst eo28
         go_wp2
         go_meet
         case rel => exact ⟨_, (((t300.length : Int) != (t296.length : Int))), (by first | rfl | (simp; done) | (simp [*]; done)), H', ⟨by have := HJ2.out; have := HJ14.out; first | omega | exact Nat.le_refl _⟩, ⟨by (with_reducible repeat (first | apply Kd.R_alloc | apply Kd.R_drewN | apply Kd.R_drew)); exact HO_4.out⟩, ⟨by (with_reducible repeat (first | apply Kd.R_alloc | apply Kd.R_drewN | apply Kd.R_drew)); exact HO_6.out⟩, ⟨by (with_reducible repeat (first | refine blk_drewN ?_ _ | refine blk_drew ?_ | refine blk_alloc ?_ _)); exact BK293.out⟩, ⟨by repeat (first | (with_reducible first | exact HB.out | apply below_alloc | apply pw_below_drewN | apply below_drew1 | refine below_set ?_ GE293.out) | exact HB.out)⟩⟩
        ·
         rw [if_neg c25] at H
         have c25b0 : ((t296.length : Int) == (l0_0.length : Int)) = false := beq_eq_false_iff_ne.mpr c25
         have c25b1 : ((t296.length : Int) != (l0_0.length : Int)) = true := bne_iff_ne.mpr c25
         have c25b2 : (t296.length == l0_0.length) = false := by first | simpa using c25 | (simp at c25 ⊢; omega)
         (first | rw [c25b0] | (simp only [i64_w, i32_w]; rw [c25b0]) | skip)
         have H' := Aside0.mk H
         clear H
         obtain ⟨Ao29, co29, eo29⟩ := Kd.R_slice HO_4.out
         subst eo29
         have hcz30_0 : wc.cell? ⟨gb293, 0, none⟩ = some (.slice A0_0 l0_0.length c0_0) := (blk_cell BK293.out 0).trans rfl
         have hfz30_0 := blk_frozen BK293.out 0
         go_wp2
         go_meet
         case rel => exact ⟨_, (true), (by first | rfl | (simp; done) | (simp [*]; done)), H', ⟨by have := HJ2.out; have := HJ14.out; first | omega | exact Nat.le_refl _⟩, ⟨by (with_reducible repeat (first | apply Kd.R_alloc | apply Kd.R_drewN | apply Kd.R_drew)); exact HO_4.out⟩, ⟨by (with_reducible repeat (first | apply Kd.R_alloc | apply Kd.R_drewN | apply Kd.R_drew)); exact HO_6.out⟩, ⟨by (with_reducible repeat (first | refine blk_drewN ?_ _ | refine blk_drew ?_ | refine blk_alloc ?_ _)); exact BK293.out⟩, ⟨by repeat (first | (with_reducible first | exact HB.out | apply below_alloc | apply pw_below_drewN | apply below_drew1 | refine below_set ?_ GE293.out) | exact HB.out)⟩⟩
       case rest =>
        clear HC24
        try clear c1
        try clear c2
        try clear p2
        try clear c4
        try clear c7
        try clear c12
        try clear c13
        try clear c14
        try clear c15
        try clear c20
        try clear c20b0
        try clear c20b1
        try clear c21
        try clear c22
        try clear c22b0
        try clear c22b1
        try clear c25
        try clear c25b0
        try clear c25b1
        try clear c25b2
        try clear hcz10_0
        try clear hcz16_0
        try clear hcz18_0
        try clear hcz27_0
        try clear hcz30_0
        try clear hcz8_0
        try clear hfz10_0
        try clear hfz16_0
        try clear hfz18_0
        try clear hfz27_0
        try clear hfz30_0
        try clear hfz8_0
        try clear p2
        obtain ⟨kq, x56_23, rfl, HA, HJ23, HO_4, HO_6, BK293, HB⟩ := hcut
        cases kq with
        | zero => exact absurd HA.out (by simp [millhandlaw23_DagOrder.j2])
        | succ kj23 =>
         have H := HA.out
         clear HA
         simp only [millhandlaw23_DagOrder.j2] at H
         by_cases c31 : x56_23 = true
         ·
          subst c31
          have H1 : (some false) = some r := by rw [if_pos rfl] at H; exact H
          clear H
          have H := H1
          clear H1
          obtain rfl := Option.some.inj H
          go_wp2
          go_ret
          exact ⟨by first | rfl | (simp [errW_none, errW_some] <;> rfl) | (simp [*, errW_none, errW_some] <;> rfl) | exact ret_ie _ | (simp [*, errW_none, errW_some, bne]; done), by repeat (first | (with_reducible first | exact HB.out | apply below_alloc | apply pw_below_drewN | apply below_drew1 | refine below_set ?_ GE293.out) | exact HB.out)⟩
         ·
          replace c31 := Bool.eq_false_iff.mpr c31
          subst c31
          have H1 : (if 0 ≤ (t296.length : Int) then (if ((t296.length : Int) : Int).toNat ≤ 281474976710656 then (millhandlaw23_DagOrder.l0 kj23 t296 t300 (List.replicate ((t296.length : Int) : Int).toNat false) 0 l0_0) else (none)) else (none)) = some r := by rw [if_neg (show ¬ (false = true) by decide)] at H; exact H
          clear H
          have H := H1
          clear H1
          by_cases c32 : 0 ≤ (t296.length : Int)
          ·
           rw [if_pos c32] at H
           have c32b0 := eq_true c32
           have c32b1 : decide (0 ≤ (t296.length : Int)) = true := decide_eq_true c32
           clear c32
           by_cases c33 : ((t296.length : Int) : Int).toNat ≤ 281474976710656
           ·
            rw [if_pos c33] at H
            have c33b0 := eq_true c33
            have c33b1 : decide (((t296.length : Int) : Int).toNat ≤ 281474976710656) = true := decide_eq_true c33
            clear c33
            obtain ⟨y304, hy304⟩ : ∃ y_ : List Bool, y_ = (List.replicate ((t296.length : Int) : Int).toNat false) := ⟨_, rfl⟩
            replace H : (millhandlaw23_DagOrder.l0 kj23 t296 t300 y304 0 l0_0) = some r := by first | (rw [hy304]; with_reducible exact H) | (have H2_ := (Option.bind_some _ _).symm.trans H; rw [hy304]; with_reducible exact H2_) | (have H2_ := (Option.bind_some _ _).symm.trans H; with_reducible exact H2_) | with_reducible exact H | (rw [hy304]; exact H) | exact H
            have Ny304 := Aside0.mk hy304
            clear hy304
            have H' := Aside0.mk H
            clear H
            obtain ⟨Ao34, co34, eo34⟩ := Kd.R_slice HO_4.out
            subst eo34
            go_wp2_with (first | ((with_reducible refine gate_dst (N := 59) rfl ?_); (try (refine gate_guard (by rfl) ?_; dsimp only)); refine Kd.R_make Kd.bool _ 4 rfl (N := 59) rfl 38 _ _ rfl (t296.length : Int) rfl rfl Try.underlying38 (.bool false) 1 info4 rfl (by decide) (by omega) false (ok := fun _ => True) (okp := fun _ => True) rfl (fun _ hk => hk) trivial (of_decide_eq_true (by first | (with_reducible assumption) | assumption)) (Nat.le_trans (Nat.mul_le_mul_right _ (of_decide_eq_true (by first | (with_reducible assumption) | assumption) : (t296.length : Int).toNat ≤ 281474976710656)) (by omega)) (Below.refl _ _) (Nat.le_refl _) ?_; intro v305 w35 ho36 hb hg_ hnew_; clear hg_ hnew_; (first | rw [← Ny304.out] at ho36 | (simp only [Int.reduceToNat] at ho36; rw [← Ny304.out] at ho36)); have n0_ := Aside0.mk (Kd.R_below (by (with_reducible repeat (first | apply Kd.R_alloc | apply Kd.R_drewN | apply Kd.R_drew)); exact HO_4.out) hb); have n1_ := Aside0.mk (Kd.R_below (by (with_reducible repeat (first | apply Kd.R_alloc | apply Kd.R_drewN | apply Kd.R_drew)); exact HO_6.out) hb); have n2_ := Aside0.mk (Kd.R_lower ho36 (below_size (by repeat (first | (with_reducible first | exact HB.out | apply below_alloc | apply pw_below_drewN | apply below_drew1 | refine below_set ?_ GE293.out) | exact HB.out)))); have n3_ := Aside0.mk (blk_below (g := gb293) (o := .cells #[.slice A0_0 l0_0.length c0_0] 25 (0, 0)) (by (with_reducible repeat (first | refine blk_drewN ?_ _ | refine blk_drew ?_ | refine blk_alloc ?_ _)); exact BK293.out) hb); have n4_ := Aside0.mk (below_step (by repeat (first | (with_reducible first | exact HB.out | apply below_alloc | apply pw_below_drewN | apply below_drew1 | refine below_set ?_ GE293.out) | exact HB.out)) hb); clear HO_4; clear HO_6; clear BK293; clear HB; have HO_4 := n0_; have HO_6 := n1_; have HO306 := n2_; have BK293 := n3_; have HB := n4_; clear n0_ n1_ n2_ n3_ n4_; clear hb ho36))
            go_loopg [9] kj23 (fun kq v9 w' => ∃ (x8_4 : List Bool) (x9_4 : Int), v9 = .int .i64 x9_4 ∧ Aside0 (millhandlaw23_DagOrder.l0 kq t296 t300 x8_4 x9_4 l0_0 = some r) ∧ Aside0 (kq ≤ kj23) ∧ Aside0 (Kd.R (Kd.int .i64) 3 w' w.heap.size (fun k_ => some k_ ≠ (v301 : Value).ownBlock) (.slice Ao34 t296.length co34) t296) ∧ Aside0 (Kd.R (Kd.int .i64) 3 w' w.heap.size (fun k_ => some k_ ≠ ((.slice Ao34 t296.length co34) : Value).ownBlock) v301 t300) ∧ Aside0 (Kd.R Kd.bool 4 w' w.heap.size (fun _ => True) v305 x8_4) ∧ Aside0 (w'.heap[gb293]? = some (.cells #[(.slice A0_0 l0_0.length c0_0)] 25 (0, 0))) ∧ Aside0 (Below w.heap.size w w'))
            case atStart => exact ⟨(y304), (0), (by first | rfl | (simp; done) | (simp [*]; done)), H', ⟨Nat.le_refl _⟩, ⟨by (with_reducible repeat (first | apply Kd.R_alloc | apply Kd.R_drewN | apply Kd.R_drew)); exact HO_4.out⟩, ⟨by (with_reducible repeat (first | apply Kd.R_alloc | apply Kd.R_drewN | apply Kd.R_drew)); exact HO_6.out⟩, ⟨by (with_reducible repeat (first | apply Kd.R_alloc | apply Kd.R_drewN | apply Kd.R_drew)); exact HO306.out⟩, ⟨by (with_reducible repeat (first | refine blk_drewN ?_ _ | refine blk_drew ?_ | refine blk_alloc ?_ _)); exact BK293.out⟩, ⟨by repeat (first | (with_reducible first | exact HB.out | apply below_alloc | apply pw_below_drewN | apply below_drew1 | refine below_set ?_ GE293.out) | exact HB.out)⟩⟩
            case round =>
             clear H'
             try clear c1
             try clear c2
             try clear p2
             try clear c3
             try clear c4
             try clear c7
             try clear c12
             try clear c13
             try clear c14
             try clear c15
             try clear c20
             try clear c20b0
             try clear c20b1
             try clear c21
             try clear c22
             try clear c22b0
             try clear c22b1
             try clear c25
             try clear c25b0
             try clear c25b1
             try clear c25b2
             try clear c31
             try clear c32
             try clear c32b0
             try clear c32b1
             try clear c33
             try clear c33b0
             try clear c33b1
             try clear hcz10_0
             try clear hcz16_0
             try clear hcz18_0
             try clear hcz27_0
             try clear hcz30_0
             try clear hcz8_0
             try clear hfz10_0
             try clear hfz16_0
             try clear hfz18_0
             try clear hfz27_0
             try clear hfz30_0
             try clear hfz8_0
             try clear p2
             obtain ⟨x8_4, x9_4, rfl, HA, HK4, HO_4, HO_6, HO_8, BK293, HB⟩ := hrel
             cases gk with
             | zero => exact absurd HA.out (by simp [millhandlaw23_DagOrder.l0])
             | succ k4 =>
              have H := HA.out
              clear HA
              simp only [millhandlaw23_DagOrder.l0] at H
              by_cases c37 : x9_4 < (t296.length : Int)
              ·
               rw [if_pos c37] at H
               have c37b0 : decide (x9_4 < (t296.length : Int)) = true := decide_eq_true c37
               clear c37
               have HC38 := Aside0.mk H
               clear H
               go_upto_region 14 with (fail)
               go_cut [88] (fun v88 wc => ∃ (kq : Nat) (x88_37 : Bool), v88 = .bool x88_37 ∧ Aside0 (millhandlaw23_DagOrder.j4 kq t296 t300 x8_4 x9_4 x88_37 l0_0 = some r) ∧ Aside0 (kq ≤ k4) ∧ Aside0 (Kd.R (Kd.int .i64) 3 wc w.heap.size (fun k_ => some k_ ≠ (v301 : Value).ownBlock) (.slice Ao34 t296.length co34) t296) ∧ Aside0 (Kd.R (Kd.int .i64) 3 wc w.heap.size (fun k_ => some k_ ≠ ((.slice Ao34 t296.length co34) : Value).ownBlock) v301 t300) ∧ Aside0 (Kd.R Kd.bool 4 wc w.heap.size (fun _ => True) v305 x8_4) ∧ Aside0 (wc.heap[gb293]? = some (.cells #[(.slice A0_0 l0_0.length c0_0)] 25 (0, 0))) ∧ Aside0 (Below w.heap.size w wc))
               case first =>
                have H := HC38.out
                clear HC38
                by_cases c39 : 0 ≤ x9_4
                ·
                 rw [if_pos c39] at H
                 have c39b0 : decide (0 ≤ x9_4) = true := decide_eq_true c39
                 clear c39
                 (first | rw [c39b0] | (simp only [i64_w, i32_w]; rw [c39b0]) | skip)
                 by_cases c40 : (rd t296 x9_4) < 0
                 ·
                  rw [if_pos c40] at H
                  have c40b0 : decide ((rd t296 x9_4) < 0) = true := decide_eq_true c40
                  clear c40
                  have H' := Aside0.mk H
                  clear H
                  have p307 : 0 ≤ (x9_4 : Int) := of_decide_eq_true (by first | (with_reducible assumption) | assumption)
                  have q307 : x9_4 < (t296.length : Int) := of_decide_eq_true (by first | (with_reducible assumption) | assumption)
                  obtain ⟨ad307, e307, hx307_0⟩ := Kd.at_int (Kd.R_reads' HO_4.out).2.2 x9_4 p307 q307
                  cases e307
                  replace p307 := eq_true p307
                  replace q307 := eq_true q307
                  go_wp2
                  go_meet
                  case rel => exact ⟨_, (true), (by first | rfl | (simp; done) | (simp [*]; done)), H', ⟨by have := HJ2.out; have := HJ14.out; have := HJ23.out; have := HK4.out; first | omega | exact Nat.le_refl _⟩, ⟨by (with_reducible repeat (first | apply Kd.R_alloc | apply Kd.R_drewN | apply Kd.R_drew)); exact HO_4.out⟩, ⟨by (with_reducible repeat (first | apply Kd.R_alloc | apply Kd.R_drewN | apply Kd.R_drew)); exact HO_6.out⟩, ⟨by (with_reducible repeat (first | apply Kd.R_alloc | apply Kd.R_drewN | apply Kd.R_drew)); exact HO_8.out⟩, ⟨by (with_reducible repeat (first | refine blk_drewN ?_ _ | refine blk_drew ?_ | refine blk_alloc ?_ _)); exact BK293.out⟩, ⟨by repeat (first | (with_reducible first | exact HB.out | apply below_alloc | apply pw_below_drewN | apply below_drew1 | refine below_set ?_ GE293.out) | exact HB.out)⟩⟩
                 ·
                  rw [if_neg c40] at H
                  have c40b0 : decide ((rd t296 x9_4) < 0) = false := decide_eq_false c40
                  clear c40
                  by_cases c41 : (rd t296 x9_4) ≥ (x8_4.length : Int)
                  ·
                   rw [if_pos c41] at H
                   have c41b0 : decide ((x8_4.length : Int) ≤ (rd t296 x9_4)) = true := decide_eq_true c41
                   clear c41
                   have H' := Aside0.mk H
                   clear H
                   have p307 : 0 ≤ (x9_4 : Int) := of_decide_eq_true (by first | (with_reducible assumption) | assumption)
                   have q307 : x9_4 < (t296.length : Int) := of_decide_eq_true (by first | (with_reducible assumption) | assumption)
                   obtain ⟨ad307, e307, hx307_0⟩ := Kd.at_int (Kd.R_reads' HO_4.out).2.2 x9_4 p307 q307
                   cases e307
                   replace p307 := eq_true p307
                   replace q307 := eq_true q307
                   have p308 : 0 ≤ (x9_4 : Int) := of_decide_eq_true (by first | (with_reducible assumption) | assumption)
                   have q308 : x9_4 < (t296.length : Int) := of_decide_eq_true (by first | (with_reducible assumption) | assumption)
                   obtain ⟨ad308, e308, hx308_0⟩ := Kd.at_int (Kd.R_reads' HO_4.out).2.2 x9_4 p308 q308
                   obtain rfl : ad307 = ad308 := (by injection e308)
                   replace p308 := eq_true p308
                   replace q308 := eq_true q308
                   obtain ⟨Ao42, co42, eo42⟩ := Kd.R_slice HO_8.out
                   subst eo42
                   go_wp2
                   go_meet
                   case rel => exact ⟨_, (true), (by first | rfl | (simp; done) | (simp [*]; done)), H', ⟨by have := HJ2.out; have := HJ14.out; have := HJ23.out; have := HK4.out; first | omega | exact Nat.le_refl _⟩, ⟨by (with_reducible repeat (first | apply Kd.R_alloc | apply Kd.R_drewN | apply Kd.R_drew)); exact HO_4.out⟩, ⟨by (with_reducible repeat (first | apply Kd.R_alloc | apply Kd.R_drewN | apply Kd.R_drew)); exact HO_6.out⟩, ⟨by (with_reducible repeat (first | apply Kd.R_alloc | apply Kd.R_drewN | apply Kd.R_drew)); exact HO_8.out⟩, ⟨by (with_reducible repeat (first | refine blk_drewN ?_ _ | refine blk_drew ?_ | refine blk_alloc ?_ _)); exact BK293.out⟩, ⟨by repeat (first | (with_reducible first | exact HB.out | apply below_alloc | apply pw_below_drewN | apply below_drew1 | refine below_set ?_ GE293.out) | exact HB.out)⟩⟩
                  ·
                   rw [if_neg c41] at H
                   have c41b0 : decide ((x8_4.length : Int) ≤ (rd t296 x9_4)) = false := decide_eq_false c41
                   clear c41
                   by_cases c43 : 0 ≤ (rd t296 x9_4)
                   ·
                    rw [if_pos c43] at H
                    have c43b0 : decide (0 ≤ (rd t296 x9_4)) = true := decide_eq_true c43
                    clear c43
                    by_cases c44 : (rd t296 x9_4) < (x8_4.length : Int)
                    ·
                     rw [if_pos c44] at H
                     have c44b0 : decide ((rd t296 x9_4) < (x8_4.length : Int)) = true := decide_eq_true c44
                     clear c44
                     have H' := Aside0.mk H
                     clear H
                     have p307 : 0 ≤ (x9_4 : Int) := of_decide_eq_true (by first | (with_reducible assumption) | assumption)
                     have q307 : x9_4 < (t296.length : Int) := of_decide_eq_true (by first | (with_reducible assumption) | assumption)
                     obtain ⟨ad307, e307, hx307_0⟩ := Kd.at_int (Kd.R_reads' HO_4.out).2.2 x9_4 p307 q307
                     cases e307
                     replace p307 := eq_true p307
                     replace q307 := eq_true q307
                     have p308 : 0 ≤ (x9_4 : Int) := of_decide_eq_true (by first | (with_reducible assumption) | assumption)
                     have q308 : x9_4 < (t296.length : Int) := of_decide_eq_true (by first | (with_reducible assumption) | assumption)
                     obtain ⟨ad308, e308, hx308_0⟩ := Kd.at_int (Kd.R_reads' HO_4.out).2.2 x9_4 p308 q308
                     obtain rfl : ad307 = ad308 := (by injection e308)
                     replace p308 := eq_true p308
                     replace q308 := eq_true q308
                     obtain ⟨Ao45, co45, eo45⟩ := Kd.R_slice HO_8.out
                     subst eo45
                     have p309 : 0 ≤ (x9_4 : Int) := of_decide_eq_true (by first | (with_reducible assumption) | assumption)
                     have q309 : x9_4 < (t296.length : Int) := of_decide_eq_true (by first | (with_reducible assumption) | assumption)
                     obtain ⟨ad309, e309, hx309_0⟩ := Kd.at_int (Kd.R_reads' HO_4.out).2.2 x9_4 p309 q309
                     obtain rfl : ad307 = ad309 := (by injection e309)
                     replace p309 := eq_true p309
                     replace q309 := eq_true q309
                     have p310 : 0 ≤ ((rd t296 x9_4) : Int) := of_decide_eq_true (by first | (with_reducible assumption) | assumption)
                     have q310 : (rd t296 x9_4) < (x8_4.length : Int) := of_decide_eq_true (by first | (with_reducible assumption) | assumption)
                     obtain ⟨ad310, e310, hx310_0⟩ := Kd.at_bool (Kd.R_reads' HO_8.out).2.2 (rd t296 x9_4) p310 q310
                     cases e310
                     replace p310 := eq_true p310
                     replace q310 := eq_true q310
                     go_wp2
                     go_meet
                     case rel => exact ⟨_, (rdOf false x8_4 (rd t296 x9_4)), (by first | rfl | (simp; done) | (simp [*]; done)), H', ⟨by have := HJ2.out; have := HJ14.out; have := HJ23.out; have := HK4.out; first | omega | exact Nat.le_refl _⟩, ⟨by (with_reducible repeat (first | apply Kd.R_alloc | apply Kd.R_drewN | apply Kd.R_drew)); exact HO_4.out⟩, ⟨by (with_reducible repeat (first | apply Kd.R_alloc | apply Kd.R_drewN | apply Kd.R_drew)); exact HO_6.out⟩, ⟨by (with_reducible repeat (first | apply Kd.R_alloc | apply Kd.R_drewN | apply Kd.R_drew)); exact HO_8.out⟩, ⟨by (with_reducible repeat (first | refine blk_drewN ?_ _ | refine blk_drew ?_ | refine blk_alloc ?_ _)); exact BK293.out⟩, ⟨by repeat (first | (with_reducible first | exact HB.out | apply below_alloc | apply pw_below_drewN | apply below_drew1 | refine below_set ?_ GE293.out) | exact HB.out)⟩⟩
                    ·
                     rw [if_neg c44] at H
                     exact absurd H (by simp)
                   ·
                    rw [if_neg c43] at H
                    exact absurd H (by simp)
                ·
                 rw [if_neg c39] at H
                 exact absurd H (by simp)
               case rest =>
                clear HC38
                try clear c1
                try clear c2
                try clear p2
                try clear c3
                try clear p3
                try clear q3
                try clear hx3
                try clear c4
                try clear c7
                try clear c12
                try clear c13
                try clear c14
                try clear c15
                try clear c20
                try clear c20b0
                try clear c20b1
                try clear c21
                try clear c22
                try clear c22b0
                try clear c22b1
                try clear c25
                try clear c25b0
                try clear c25b1
                try clear c25b2
                try clear p30
                try clear q30
                try clear hx30
                try clear c31
                try clear p31
                try clear q31
                try clear hx31
                try clear c32
                try clear c32b0
                try clear c32b1
                try clear c33
                try clear c33b0
                try clear c33b1
                try clear c37
                try clear c37b0
                try clear c39
                try clear c39b0
                try clear c40
                try clear c40b0
                try clear c41
                try clear c41b0
                try clear c43
                try clear c43b0
                try clear c44
                try clear c44b0
                try clear hcz10_0
                try clear hcz16_0
                try clear hcz18_0
                try clear hcz27_0
                try clear hcz30_0
                try clear hcz8_0
                try clear hfz10_0
                try clear hfz16_0
                try clear hfz18_0
                try clear hfz27_0
                try clear hfz30_0
                try clear hfz8_0
                try clear hx307_0
                try clear hx308_0
                try clear hx309_0
                try clear hx310_0
                try clear p2
                try clear p307
                try clear p308
                try clear p309
                try clear p310
                try clear q307
                try clear q308
                try clear q309
                try clear q310
                obtain ⟨kq, x88_37, rfl, HA, HJ37, HO_4, HO_6, HO_8, BK293, HB⟩ := hcut
                cases kq with
                | zero => exact absurd HA.out (by simp [millhandlaw23_DagOrder.j4])
                | succ kj37 =>
                 have H := HA.out
                 clear HA
                 simp only [millhandlaw23_DagOrder.j4] at H
                 by_cases c46 : x88_37 = true
                 ·
                  subst c46
                  have H1 : (some false) = some r := by rw [if_pos rfl] at H; exact H
                  clear H
                  have H := H1
                  clear H1
                  obtain rfl := Option.some.inj H
                  go_wp2
                  go_ret
                  exact ⟨by first | rfl | (simp [errW_none, errW_some] <;> rfl) | (simp [*, errW_none, errW_some] <;> rfl) | exact ret_ie _ | (simp [*, errW_none, errW_some, bne]; done), by repeat (first | (with_reducible first | exact HB.out | apply below_alloc | apply pw_below_drewN | apply below_drew1 | refine below_set ?_ GE293.out) | exact HB.out)⟩
                 ·
                  replace c46 := Bool.eq_false_iff.mpr c46
                  subst c46
                  have H1 : (if 0 ≤ x9_4 then (if x9_4 < (t296.length : Int) then (if 0 ≤ (rd t296 x9_4) then (if (rd t296 x9_4) < (l0_0.length : Int) then (millhandlaw23_DagOrder.l1 kj37 t296 t300 x8_4 x9_4 0 l0_0 ((rd_T40 l0_0 (rd t296 x9_4)).f0) ((rd_T40 l0_0 (rd t296 x9_4)).f1) ((rd_T40 l0_0 (rd t296 x9_4)).f2)) else (none)) else (none)) else (none)) else (none)) = some r := by rw [if_neg (show ¬ (false = true) by decide)] at H; exact H
                  clear H
                  have H := H1
                  clear H1
                  by_cases c47 : 0 ≤ x9_4
                  ·
                   rw [if_pos c47] at H
                   have c47b0 : decide (0 ≤ x9_4) = true := decide_eq_true c47
                   clear c47
                   by_cases c48 : x9_4 < (t296.length : Int)
                   ·
                    rw [if_pos c48] at H
                    have c48b0 : decide (x9_4 < (t296.length : Int)) = true := decide_eq_true c48
                    clear c48
                    by_cases c49 : 0 ≤ (rd t296 x9_4)
                    ·
                     rw [if_pos c49] at H
                     have c49b0 : decide (0 ≤ (rd t296 x9_4)) = true := decide_eq_true c49
                     clear c49
                     by_cases c50 : (rd t296 x9_4) < (l0_0.length : Int)
                     ·
                      rw [if_pos c50] at H
                      have c50b0 : decide ((rd t296 x9_4) < (l0_0.length : Int)) = true := decide_eq_true c50
                      clear c50
                      have H' := Aside0.mk H
                      clear H
                      try go_wp2
                      have n0_ := Aside0.mk (Kd.R_drew HO_4.out)
                      have n1_ := Aside0.mk (Kd.R_drew HO_6.out)
                      have n2_ := Aside0.mk (Kd.R_drew HO_8.out)
                      have n3_ := Aside0.mk (blk_drew BK293.out)
                      have n4_ := Aside0.mk (below_drew1 HB.out)
                      clear HO_4
                      clear HO_6
                      clear HO_8
                      clear BK293
                      clear HB
                      have HO_4 := n0_
                      have HO_6 := n1_
                      have HO_8 := n2_
                      have BK293 := n3_
                      have HB := n4_
                      clear n0_ n1_ n2_ n3_ n4_
                      have p311 : 0 ≤ (x9_4 : Int) := of_decide_eq_true (by first | (with_reducible assumption) | assumption)
                      have q311 : x9_4 < (t296.length : Int) := of_decide_eq_true (by first | (with_reducible assumption) | assumption)
                      obtain ⟨ad311, e311, hx311_0⟩ := Kd.at_int (Kd.R_reads' HO_4.out).2.2 x9_4 p311 q311
                      cases e311
                      replace p311 := eq_true p311
                      replace q311 := eq_true q311
                      have p312 : 0 ≤ ((rd t296 x9_4) : Int) := of_decide_eq_true (by first | (with_reducible assumption) | assumption)
                      have q312 : (rd t296 x9_4) < (l0_0.length : Int) := of_decide_eq_true (by first | (with_reducible assumption) | assumption)
                      obtain ⟨ad312, A312_0, c312_0, e312, hx312_0, hx312_1, hx312_2, hl312_0, hi312_0⟩ := at_T40 HR0_0.out (rd t296 x9_4) p312 q312
                      have hw312_2 := hx312_2
                      have hw312_1 := hx312_1
                      have hw312_0 := hx312_0
                      cases e312
                      replace hx312_0 := cl_ HB.out hx312_0
                      replace hx312_1 := cl_ HB.out hx312_1
                      replace hx312_2 := cl_ HB.out hx312_2
                      have HR312_0 := Aside0.mk hi312_0
                      have HC312_0 := Aside0.mk hl312_0
                      clear hi312_0 hl312_0
                      replace p312 := eq_true p312
                      replace q312 := eq_true q312
                      refine start_ (n := 10) (S := fun w' => w'.cell? ⟨gb293, 0, none⟩ = some (.slice (some ad312) l0_0.length c0_0) ∧ w'.cell? (ad311.add (x9_4).toNat) = some (.int .i64 (rd t296 x9_4)) ∧ w'.cell? (ad312.add (((rd t296 x9_4)).toNat * 3)) = some (.slice A312_0 ((rd_T40 l0_0 (rd t296 x9_4)).f0).length c312_0) ∧ w'.cell? ⟨(ad312.add (((rd t296 x9_4)).toNat * 3)).block, (ad312.add (((rd t296 x9_4)).toNat * 3)).off + 1, none⟩ = some (.int .i64 ((rd_T40 l0_0 (rd t296 x9_4)).f1)) ∧ w'.cell? ⟨(ad312.add (((rd t296 x9_4)).toNat * 3)).block, (ad312.add (((rd t296 x9_4)).toNat * 3)).off + 2, none⟩ = some (.int .i64 ((rd_T40 l0_0 (rd t296 x9_4)).f2))) (ds := []) (b_ 10 0) (by kernel_rfl) rfl rfl ⟨(blk_cell BK293.out 0).trans rfl, hx311_0, (cl_ HB.out hw312_0), (cl_ HB.out hw312_1), (cl_ HB.out hw312_2)⟩ (fun hHeld => ?_); refine with_tabW millhandlaw23_DagOrder.tab16 millhandlaw23_DagOrder.bits16 (fun HT_ HW_ => ?_)
                      generalize wc.drew = w51 at HO_4 HO_6 HO_8 BK293 HB HR312_0 hx311_0 hx312_0 hx312_1 hx312_2 hHeld ⊢
                      refine pA_ 0 89 ?_ (b_ 10 1) (any_of HT_.out (by kernel_rfl)) rfl rfl (fun _ _ _ h => h) (by rfl) ?_ ?_ ?_ ?_
                      rotate_left
                      ·
                       intro w'
                       go_simp
                       with_reducible rfl
                      rotate_left
                      ·
                       simp only [Act.put, sa_, s0_, s1_, i64_w, i32_w]
                       rfl
                      refine pA_ 2 91 ?_ (b_ 10 5) (any_of HT_.out (by kernel_rfl)) rfl rfl (fun _ _ _ h => h) (by rfl) ?_ ?_ ?_ ?_
                      rotate_left
                      ·
                       intro w'
                       go_simp
                       with_reducible rfl
                      rotate_left
                      ·
                       simp only [Act.put, sa_, s0_, s1_, i64_w, i32_w]
                       rfl
                      refine pA_ 3 92 ?_ (b_ 10 13) (any_of HT_.out (by kernel_rfl)) rfl rfl (fun _ _ _ h => h) (by rfl) ?_ ?_ ?_ ?_
                      rotate_left
                      ·
                       intro w'
                       go_simp
                       with_reducible rfl
                      rotate_left
                      ·
                       simp only [Act.put, sa_, s0_, s1_, i64_w, i32_w]
                       rfl
                      refine pA_ 4 93 ?_ (b_ 10 29) (any_of HT_.out (by kernel_rfl)) rfl rfl (fun _ _ _ h => h) (by rfl) ?_ ?_ ?_ ?_
                      rotate_left
                      ·
                       intro w'
                       go_simp
                       with_reducible rfl
                      rotate_left
                      ·
                       simp only [Act.put, sa_, s0_, s1_, i64_w, i32_w]
                       rfl
                      refine tA_ 1 90 ?_ (b_ 10 31) (take_ofW HT_.out HW_.out (by kernel_rfl)) rfl rfl (fun _ _ _ h => h) (by rfl) ?_ hHeld ?_ ?_ ?_
                      rotate_left
                      ·
                       rintro w' ⟨s0, s1, s2, s3, s4⟩
                       go_simp
                       with_reducible rfl
                      rotate_left
                      ·
                       simp only [Act.put, sa_, s0_, s1_, i64_w, i32_w]
                       rfl
                      refine tA_ 5 94 ?_ (b_ 10 63) (take_ofW HT_.out HW_.out (by kernel_rfl)) rfl rfl (fun _ _ _ h => h) (by rfl) ?_ hHeld ?_ ?_ ?_
                      rotate_left
                      ·
                       rintro w' ⟨s0, s1, s2, s3, s4⟩
                       go_simp
                       with_reducible rfl
                      rotate_left
                      ·
                       simp only [Act.put, sa_, s0_, s1_, i64_w, i32_w]
                       rfl
                      refine pA_ 6 95 ?_ (b_ 10 127) (any_of HT_.out (by kernel_rfl)) rfl rfl (fun _ _ _ h => h) (by rfl) ?_ ?_ ?_ ?_
                      rotate_left
                      ·
                       intro w'
                       go_simp
                       with_reducible rfl
                      rotate_left
                      ·
                       simp only [Act.put, sa_, s0_, s1_, i64_w, i32_w]
                       rfl
                      refine tA_ 7 96 ?_ (b_ 10 255) (take_ofW HT_.out HW_.out (by kernel_rfl)) rfl rfl (fun _ _ _ h => h) (by rfl) ?_ hHeld ?_ ?_ ?_
                      rotate_left
                      ·
                       rintro w' ⟨s0, s1, s2, s3, s4⟩
                       go_simp
                       with_reducible rfl
                      rotate_left
                      ·
                       simp only [Act.put, sa_, s0_, s1_, i64_w, i32_w]
                       rfl
                      refine one_ (i := 8) (N := some 10) (b_ 10 511) rfl rfl (one_of HT_.out (by kernel_rfl)) (by decide) (fun K hK => ?_)
                      refine box_step ?hg (N := 10) ?hd (cs := #[.slice none 0 0, .int .i64 0, .int .i64 0]) (t := 40) ?hr ?_; (case hd => rfl); (case hg => rfl); (case hr => first | (go_simp; done) | (go_simp; rfl))
                      intro gb313 hg w52 hbox hb
                      have HS1_ := (hb.cell (World.block_lt_of_cell? _ _ (hHeld.2.1))).trans (hHeld.2.1)
                      have n0_ := Aside0.mk (Kd.R_below (by (with_reducible repeat (first | apply Kd.R_alloc | apply Kd.R_drewN | apply Kd.R_drew)); exact HO_4.out) hb)
                      have n1_ := Aside0.mk (Kd.R_below (by (with_reducible repeat (first | apply Kd.R_alloc | apply Kd.R_drewN | apply Kd.R_drew)); exact HO_6.out) hb)
                      have n2_ := Aside0.mk (Kd.R_below (by (with_reducible repeat (first | apply Kd.R_alloc | apply Kd.R_drewN | apply Kd.R_drew)); exact HO_8.out) hb)
                      have n3_ := Aside0.mk (blk_below (g := gb293) (o := .cells #[.slice (some ad312) l0_0.length c0_0] 25 (0, 0)) (by (with_reducible repeat (first | refine blk_drewN ?_ _ | refine blk_drew ?_ | refine blk_alloc ?_ _)); exact BK293.out) hb)
                      have n4_ := Aside0.mk (below_step (by repeat (first | (with_reducible first | exact HB.out | apply below_alloc | apply pw_below_drewN | apply below_drew1 | refine below_set ?_ GE293.out) | exact HB.out)) hb)
                      have n5_ := Aside0.mk (hbox)
                      have n6_ := Aside0.mk ((by rw [hg]; exact (below_size (by repeat (first | (with_reducible first | exact HB.out | apply below_alloc | apply pw_below_drewN | apply below_drew1 | refine below_set ?_ GE293.out) | exact HB.out))) : w.heap.size ≤ gb313))
                      have n7_ := Aside0.mk ((by rw [hg]; exact (below_size (by repeat (first | (with_reducible first | exact HB.out | apply below_alloc | apply pw_below_drewN | apply below_drew1 | refine below_set ?_ GE293.out) | exact HB.out))) : w.heap.size ≤ gb313))
                      have n8_ := Aside0.mk ((by rw [hg]; exact Nat.ne_of_lt (blk_lt (g := gb293) (o := .cells #[.slice (some ad312) l0_0.length c0_0] 25 (0, 0)) (by (with_reducible repeat (first | refine blk_drewN ?_ _ | refine blk_drew ?_ | refine blk_alloc ?_ _)); exact BK293.out)) : gb293 ≠ gb313))
                      have n9_ := Aside0.mk ((by rw [hg]; exact Nat.ne_of_gt (blk_lt (g := gb293) (o := .cells #[.slice (some ad312) l0_0.length c0_0] 25 (0, 0)) (by (with_reducible repeat (first | refine blk_drewN ?_ _ | refine blk_drew ?_ | refine blk_alloc ?_ _)); exact BK293.out)) : gb313 ≠ gb293))
                      clear HO_4
                      clear HO_6
                      clear HO_8
                      clear BK293
                      clear HB
                      have HO_4 := n0_
                      have HO_6 := n1_
                      have HO_8 := n2_
                      have BK293 := n3_
                      have HB := n4_
                      have BK313 := n5_
                      have GW313 := n6_
                      have GE313 := n7_
                      have NB293_313 := n8_
                      have NB313_293 := n9_
                      clear n0_ n1_ n2_ n3_ n4_ n5_ n6_ n7_ n8_ n9_
                      clear hb hbox hg
                      refine hK.out _ _ ⟨(blk_cell BK293.out 0).trans rfl, HS1_, (cl_ HB.out hw312_0), (cl_ HB.out hw312_1), (cl_ HB.out hw312_2)⟩ (fun hHeld => ?_)
                      clear hK K
                      refine norm_ (a' := ?_) ?_ ?_
                      rotate_left
                      ·
                       show Act.put _ (some 10) _ = _
                       simp only [Act.put, sa_, s0_, s1_, i64_w, i32_w]
                       rfl
                      refine one_ (i := 9) (N := none) (b_ 10 1023) rfl rfl (one_of HT_.out (by kernel_rfl)) (by decide) (fun K hK => ?_)
                      have hs53 : w52.cell? ⟨gb313, 0, none⟩ = some (.slice none 0 0) := (blk_cell BK313.out 0).trans rfl
                      have hfs53 := blk_frozen BK313.out 0
                      have hns53_0 := NB293_313.out
                      have hms53_0 := NB313_293.out
                      have hs54 : w52.cell? ⟨gb313, 1, none⟩ = some (.int .i64 0) := (blk_cell BK313.out 1).trans rfl
                      have hfs54 := blk_frozen BK313.out 1
                      have hns54_0 := NB293_313.out
                      have hms54_0 := NB313_293.out
                      have hs55 : w52.cell? ⟨gb313, 2, none⟩ = some (.int .i64 0) := (blk_cell BK313.out 2).trans rfl
                      have hfs55 := blk_frozen BK313.out 2
                      have hns55_0 := NB293_313.out
                      have hms55_0 := NB313_293.out
                      refine skip_ (w1 := ?_) (by rfl) rfl ?_ ?_
                      rotate_left
                      ·
                       go_simp
                       rfl
                      refine hK.out _ _ ⟨((cell_far (p := ⟨gb313, _, none⟩) NB293_313.out _).trans (((cell_far (p := ⟨gb313, _, none⟩) NB293_313.out _).trans (((cell_far (p := ⟨gb313, _, none⟩) NB293_313.out _).trans (hHeld.1)))))), ((cell_far (p := ⟨gb313, _, none⟩) (by first | exact Kd.own_blk (Kd.R_ne HO_4.out BK313.out (by decide)) | (rw [add_block]; exact Kd.own_blk (Kd.R_ne HO_4.out BK313.out (by decide))) | (show (Addr.add _ _).block ≠ _; rw [add_block]; exact Kd.own_blk (Kd.R_ne HO_4.out BK313.out (by decide))) | (dsimp only; exact Kd.own_blk (Kd.R_ne HO_4.out BK313.out (by decide)))) _).trans (((cell_far (p := ⟨gb313, _, none⟩) (by first | exact Kd.own_blk (Kd.R_ne HO_4.out BK313.out (by decide)) | (rw [add_block]; exact Kd.own_blk (Kd.R_ne HO_4.out BK313.out (by decide))) | (show (Addr.add _ _).block ≠ _; rw [add_block]; exact Kd.own_blk (Kd.R_ne HO_4.out BK313.out (by decide))) | (dsimp only; exact Kd.own_blk (Kd.R_ne HO_4.out BK313.out (by decide)))) _).trans (((cell_far (p := ⟨gb313, _, none⟩) (by first | exact Kd.own_blk (Kd.R_ne HO_4.out BK313.out (by decide)) | (rw [add_block]; exact Kd.own_blk (Kd.R_ne HO_4.out BK313.out (by decide))) | (show (Addr.add _ _).block ≠ _; rw [add_block]; exact Kd.own_blk (Kd.R_ne HO_4.out BK313.out (by decide))) | (dsimp only; exact Kd.own_blk (Kd.R_ne HO_4.out BK313.out (by decide)))) _).trans (hHeld.2.1)))))), ((cell_far (p := ⟨gb313, _, none⟩) (ne_ hw312_0 GW313.out) _).trans (((cell_far (p := ⟨gb313, _, none⟩) (ne_ hw312_0 GW313.out) _).trans (((cell_far (p := ⟨gb313, _, none⟩) (ne_ hw312_0 GW313.out) _).trans (hHeld.2.2.1)))))), ((cell_far (p := ⟨gb313, _, none⟩) (ne_ hw312_1 GW313.out) _).trans (((cell_far (p := ⟨gb313, _, none⟩) (ne_ hw312_1 GW313.out) _).trans (((cell_far (p := ⟨gb313, _, none⟩) (ne_ hw312_1 GW313.out) _).trans (hHeld.2.2.2.1)))))), ((cell_far (p := ⟨gb313, _, none⟩) (ne_ hw312_2 GW313.out) _).trans (((cell_far (p := ⟨gb313, _, none⟩) (ne_ hw312_2 GW313.out) _).trans (((cell_far (p := ⟨gb313, _, none⟩) (ne_ hw312_2 GW313.out) _).trans (hHeld.2.2.2.2))))))⟩ (fun hHeld => ?_)
                      clear hK K
                      refine done_ (done_of HT_.out (by kernel_rfl)) ?_
                      try go_wp2
                      go_loopg [11] kj37 (fun kq v11 w' => ∃ (x11_6 : Int), v11 = .int .i64 x11_6 ∧ Aside0 (millhandlaw23_DagOrder.l1 kq t296 t300 x8_4 x9_4 x11_6 l0_0 ((rd_T40 l0_0 (rd t296 x9_4)).f0) ((rd_T40 l0_0 (rd t296 x9_4)).f1) ((rd_T40 l0_0 (rd t296 x9_4)).f2) = some r) ∧ Aside0 (kq ≤ kj37) ∧ Aside0 (Kd.R (Kd.int .i64) 3 w' w.heap.size (fun k_ => some k_ ≠ (v301 : Value).ownBlock) (.slice (some ad311) t296.length co34) t296) ∧ Aside0 (Kd.R (Kd.int .i64) 3 w' w.heap.size (fun k_ => some k_ ≠ ((.slice (some ad311) t296.length co34) : Value).ownBlock) v301 t300) ∧ Aside0 (Kd.R Kd.bool 4 w' w.heap.size (fun _ => True) v305 x8_4) ∧ Aside0 (w'.heap[gb293]? = some (.cells #[(.slice (some ad312) l0_0.length c0_0)] 25 (0, 0))) ∧ Aside0 (w'.heap[gb313]? = some (.cells #[(.slice A312_0 ((rd_T40 l0_0 (rd t296 x9_4)).f0).length c312_0), .int .i64 ((rd_T40 l0_0 (rd t296 x9_4)).f1), .int .i64 ((rd_T40 l0_0 (rd t296 x9_4)).f2)] 40 (0, 0))) ∧ Aside0 (Below w.heap.size w w'))
                      case atStart => exact ⟨(0), (by first | rfl | (simp; done) | (simp [*]; done)), H', ⟨Nat.le_refl _⟩, ⟨by (with_reducible repeat (first | apply Kd.R_alloc | apply Kd.R_drewN | apply Kd.R_drew)); exact Kd.R_mono (Kd.R_far (p := ⟨gb313, 2, none⟩) (Kd.R_far (p := ⟨gb313, 1, none⟩) (Kd.R_far (p := ⟨gb313, 0, none⟩) (Kd.R_types HO_4.out BK313.out (by decide)) (fun _ hk => hk.2) (.slice A312_0 ((rd_T40 l0_0 (rd t296 x9_4)).f0).length c312_0)) (fun _ hk => hk.2) (.int .i64 ((rd_T40 l0_0 (rd t296 x9_4)).f1))) (fun _ hk => hk.2) (.int .i64 ((rd_T40 l0_0 (rd t296 x9_4)).f2))) (fun _ hk => hk.1)⟩, ⟨by (with_reducible repeat (first | apply Kd.R_alloc | apply Kd.R_drewN | apply Kd.R_drew)); exact Kd.R_mono (Kd.R_far (p := ⟨gb313, 2, none⟩) (Kd.R_far (p := ⟨gb313, 1, none⟩) (Kd.R_far (p := ⟨gb313, 0, none⟩) (Kd.R_types HO_6.out BK313.out (by decide)) (fun _ hk => hk.2) (.slice A312_0 ((rd_T40 l0_0 (rd t296 x9_4)).f0).length c312_0)) (fun _ hk => hk.2) (.int .i64 ((rd_T40 l0_0 (rd t296 x9_4)).f1))) (fun _ hk => hk.2) (.int .i64 ((rd_T40 l0_0 (rd t296 x9_4)).f2))) (fun _ hk => hk.1)⟩, ⟨by (with_reducible repeat (first | apply Kd.R_alloc | apply Kd.R_drewN | apply Kd.R_drew)); exact Kd.R_mono (Kd.R_far (p := ⟨gb313, 2, none⟩) (Kd.R_far (p := ⟨gb313, 1, none⟩) (Kd.R_far (p := ⟨gb313, 0, none⟩) (Kd.R_types HO_8.out BK313.out (by decide)) (fun _ hk => hk.2) (.slice A312_0 ((rd_T40 l0_0 (rd t296 x9_4)).f0).length c312_0)) (fun _ hk => hk.2) (.int .i64 ((rd_T40 l0_0 (rd t296 x9_4)).f1))) (fun _ hk => hk.2) (.int .i64 ((rd_T40 l0_0 (rd t296 x9_4)).f2))) (fun _ hk => trivial)⟩, ⟨by (with_reducible repeat (first | refine blk_drewN ?_ _ | refine blk_drew ?_ | refine blk_alloc ?_ _)); refine blk_far ?_ NB293_313.out _; (with_reducible repeat (first | refine blk_drewN ?_ _ | refine blk_drew ?_ | refine blk_alloc ?_ _)); refine blk_far ?_ NB293_313.out _; (with_reducible repeat (first | refine blk_drewN ?_ _ | refine blk_drew ?_ | refine blk_alloc ?_ _)); refine blk_far ?_ NB293_313.out _; (with_reducible repeat (first | refine blk_drewN ?_ _ | refine blk_drew ?_ | refine blk_alloc ?_ _)); exact BK293.out⟩, ⟨by (with_reducible repeat (first | refine blk_drewN ?_ _ | refine blk_drew ?_ | refine blk_alloc ?_ _)); refine blk_put (cs := #[.slice A312_0 ((rd_T40 l0_0 (rd t296 x9_4)).f0).length c312_0, .int .i64 ((rd_T40 l0_0 (rd t296 x9_4)).f1), .int .i64 0]) ?_ 2 _ rfl; (with_reducible repeat (first | refine blk_drewN ?_ _ | refine blk_drew ?_ | refine blk_alloc ?_ _)); refine blk_put (cs := #[.slice A312_0 ((rd_T40 l0_0 (rd t296 x9_4)).f0).length c312_0, .int .i64 0, .int .i64 0]) ?_ 1 _ rfl; (with_reducible repeat (first | refine blk_drewN ?_ _ | refine blk_drew ?_ | refine blk_alloc ?_ _)); refine blk_put (cs := #[.slice none 0 0, .int .i64 0, .int .i64 0]) ?_ 0 _ rfl; (with_reducible repeat (first | refine blk_drewN ?_ _ | refine blk_drew ?_ | refine blk_alloc ?_ _)); exact BK313.out⟩, ⟨by repeat (first | (with_reducible first | exact HB.out | apply below_alloc | apply pw_below_drewN | apply below_drew1 | refine below_set ?_ GE293.out | refine below_set ?_ GE313.out) | exact HB.out)⟩⟩
                      case round =>
                       clear H'
                       try clear c1
                       try clear c2
                       try clear p2
                       try clear c3
                       try clear p3
                       try clear q3
                       try clear hx3
                       try clear c4
                       try clear c5
                       try clear c7
                       try clear c12
                       try clear c13
                       try clear c14
                       try clear c15
                       try clear c20
                       try clear c20b0
                       try clear c20b1
                       try clear c21
                       try clear c22
                       try clear c22b0
                       try clear c22b1
                       try clear c25
                       try clear c25b0
                       try clear c25b1
                       try clear c25b2
                       try clear p30
                       try clear q30
                       try clear hx30
                       try clear c31
                       try clear p31
                       try clear q31
                       try clear hx31
                       try clear c32
                       try clear c32b0
                       try clear c32b1
                       try clear c33
                       try clear c33b0
                       try clear c33b1
                       try clear c37
                       try clear c37b0
                       try clear c39
                       try clear c39b0
                       try clear c40
                       try clear c40b0
                       try clear c41
                       try clear c41b0
                       try clear c43
                       try clear c43b0
                       try clear c44
                       try clear c44b0
                       try clear c46
                       try clear c47
                       try clear c47b0
                       try clear c48
                       try clear c48b0
                       try clear c49
                       try clear c49b0
                       try clear c50
                       try clear c50b0
                       try clear hcz10_0
                       try clear hcz16_0
                       try clear hcz18_0
                       try clear hcz27_0
                       try clear hcz30_0
                       try clear hcz8_0
                       try clear hfz10_0
                       try clear hfz16_0
                       try clear hfz18_0
                       try clear hfz27_0
                       try clear hfz30_0
                       try clear hfz8_0
                       try clear hx307_0
                       try clear hx308_0
                       try clear hx309_0
                       try clear hx310_0
                       try clear hx311_0
                       try clear hx312_0
                       try clear hx312_1
                       try clear hx312_2
                       try clear p2
                       try clear p3
                       try clear p30
                       try clear p307
                       try clear p308
                       try clear p309
                       try clear p31
                       try clear p310
                       try clear p311
                       try clear p312
                       try clear q3
                       try clear q30
                       try clear q307
                       try clear q308
                       try clear q309
                       try clear q31
                       try clear q310
                       try clear q311
                       try clear q312
                       obtain ⟨x11_6, rfl, HA, HK6, HO_4, HO_6, HO_8, BK293, BK313, HB⟩ := hrel
                       cases gk with
                       | zero => exact absurd HA.out (by simp [millhandlaw23_DagOrder.l1])
                       | succ k6 =>
                        have H := HA.out
                        clear HA
                        simp only [millhandlaw23_DagOrder.l1] at H
                        by_cases c56 : x11_6 < (((rd_T40 l0_0 (rd t296 x9_4)).f0).length : Int)
                        ·
                         rw [if_pos c56] at H
                         have c56b0 : decide (x11_6 < (((rd_T40 l0_0 (rd t296 x9_4)).f0).length : Int)) = true := decide_eq_true c56
                         clear c56
                         by_cases c57 : 0 ≤ x11_6
                         ·
                          rw [if_pos c57] at H
                          have c57b0 : decide (0 ≤ x11_6) = true := decide_eq_true c57
                          clear c57
                          by_cases c58 : 0 ≤ (rd ((rd_T40 l0_0 (rd t296 x9_4)).f0) x11_6)
                          ·
                           rw [if_pos c58] at H
                           have c58b0 : decide (0 ≤ (rd ((rd_T40 l0_0 (rd t296 x9_4)).f0) x11_6)) = true := decide_eq_true c58
                           clear c58
                           by_cases c59 : (rd ((rd_T40 l0_0 (rd t296 x9_4)).f0) x11_6) < (x8_4.length : Int)
                           ·
                            rw [if_pos c59] at H
                            have c59b0 : decide ((rd ((rd_T40 l0_0 (rd t296 x9_4)).f0) x11_6) < (x8_4.length : Int)) = true := decide_eq_true c59
                            clear c59
                            obtain ⟨bq60, hbq60⟩ : ∃ b_ : Bool, b_ = (rdOf false x8_4 (rd ((rd_T40 l0_0 (rd t296 x9_4)).f0) x11_6)) := ⟨_, rfl⟩
                            replace H : (if (bq60 = true) then (if (rd ((rd_T40 l0_0 (rd t296 x9_4)).f0) x11_6) < (t300.length : Int) then (if 0 ≤ x9_4 then (if x9_4 < (t296.length : Int) then (if 0 ≤ (rd t296 x9_4) then (if (rd t296 x9_4) < (t300.length : Int) then (if (rd t300 (rd ((rd_T40 l0_0 (rd t296 x9_4)).f0) x11_6)) ≥ (rd t300 (rd t296 x9_4)) then (some false) else (millhandlaw23_DagOrder.l1 k6 t296 t300 x8_4 x9_4 (wrap64 (x11_6 + 1)) l0_0 ((rd_T40 l0_0 (rd t296 x9_4)).f0) ((rd_T40 l0_0 (rd t296 x9_4)).f1) ((rd_T40 l0_0 (rd t296 x9_4)).f2))) else (none)) else (none)) else (none)) else (none)) else (none)) else (some false)) = some r := by rw [← hbq60] at H; exact H
                            have Nbq60 := Aside0.mk hbq60
                            clear hbq60
                            by_cases c61 : (bq60 = true)
                            ·
                             subst c61
                             have H1 : (if (rd ((rd_T40 l0_0 (rd t296 x9_4)).f0) x11_6) < (t300.length : Int) then (if 0 ≤ x9_4 then (if x9_4 < (t296.length : Int) then (if 0 ≤ (rd t296 x9_4) then (if (rd t296 x9_4) < (t300.length : Int) then (if (rd t300 (rd ((rd_T40 l0_0 (rd t296 x9_4)).f0) x11_6)) ≥ (rd t300 (rd t296 x9_4)) then (some false) else (millhandlaw23_DagOrder.l1 k6 t296 t300 x8_4 x9_4 (wrap64 (x11_6 + 1)) l0_0 ((rd_T40 l0_0 (rd t296 x9_4)).f0) ((rd_T40 l0_0 (rd t296 x9_4)).f1) ((rd_T40 l0_0 (rd t296 x9_4)).f2))) else (none)) else (none)) else (none)) else (none)) else (none)) = some r := by rw [if_pos rfl] at H; exact H
                             clear H
                             have H := H1
                             clear H1
                             by_cases c62 : (rd ((rd_T40 l0_0 (rd t296 x9_4)).f0) x11_6) < (t300.length : Int)
                             ·
                              rw [if_pos c62] at H
                              have c62b0 : decide ((rd ((rd_T40 l0_0 (rd t296 x9_4)).f0) x11_6) < (t300.length : Int)) = true := decide_eq_true c62
                              clear c62
                              by_cases c63 : 0 ≤ x9_4
                              ·
                               rw [if_pos c63] at H
                               have c63b0 : decide (0 ≤ x9_4) = true := decide_eq_true c63
                               clear c63
                               by_cases c64 : x9_4 < (t296.length : Int)
                               ·
                                rw [if_pos c64] at H
                                have c64b0 : decide (x9_4 < (t296.length : Int)) = true := decide_eq_true c64
                                clear c64
                                by_cases c65 : 0 ≤ (rd t296 x9_4)
                                ·
                                 rw [if_pos c65] at H
                                 have c65b0 : decide (0 ≤ (rd t296 x9_4)) = true := decide_eq_true c65
                                 clear c65
                                 by_cases c66 : (rd t296 x9_4) < (t300.length : Int)
                                 ·
                                  rw [if_pos c66] at H
                                  have c66b0 : decide ((rd t296 x9_4) < (t300.length : Int)) = true := decide_eq_true c66
                                  clear c66
                                  by_cases c67 : (rd t300 (rd ((rd_T40 l0_0 (rd t296 x9_4)).f0) x11_6)) ≥ (rd t300 (rd t296 x9_4))
                                  ·
                                   rw [if_pos c67] at H
                                   have c67b0 : decide ((rd t300 (rd t296 x9_4)) ≤ (rd t300 (rd ((rd_T40 l0_0 (rd t296 x9_4)).f0) x11_6))) = true := decide_eq_true c67
                                   clear c67
                                   obtain rfl := Option.some.inj H
                                   have hnb68 := NB313_293.out
                                   have hnc68 := NB293_313.out
                                   have hcz69_0 : wr.cell? ⟨gb313, 0, none⟩ = some (.slice A312_0 ((rd_T40 l0_0 (rd t296 x9_4)).f0).length c312_0) := (blk_cell BK313.out 0).trans rfl
                                   have hcz69_1 : wr.cell? ⟨gb313, 1, none⟩ = some (.int .i64 ((rd_T40 l0_0 (rd t296 x9_4)).f1)) := (blk_cell BK313.out 1).trans rfl
                                   have hcz69_2 : wr.cell? ⟨gb313, 2, none⟩ = some (.int .i64 ((rd_T40 l0_0 (rd t296 x9_4)).f2)) := (blk_cell BK313.out 2).trans rfl
                                   have hfz69_0 := blk_frozen BK313.out 0
                                   have hfz69_1 := blk_frozen BK313.out 1
                                   have hfz69_2 := blk_frozen BK313.out 2
                                   try go_wp2
                                   have n0_ := Aside0.mk (Kd.R_drew HO_4.out)
                                   have n1_ := Aside0.mk (Kd.R_drew HO_6.out)
                                   have n2_ := Aside0.mk (Kd.R_drew HO_8.out)
                                   have n3_ := Aside0.mk (blk_drew BK293.out)
                                   have n4_ := Aside0.mk (blk_drew BK313.out)
                                   have n5_ := Aside0.mk (below_drew1 HB.out)
                                   clear HO_4
                                   clear HO_6
                                   clear HO_8
                                   clear BK293
                                   clear BK313
                                   clear HB
                                   have HO_4 := n0_
                                   have HO_6 := n1_
                                   have HO_8 := n2_
                                   have BK293 := n3_
                                   have BK313 := n4_
                                   have HB := n5_
                                   clear n0_ n1_ n2_ n3_ n4_ n5_
                                   have p314 : 0 ≤ (x11_6 : Int) := of_decide_eq_true (by first | (with_reducible assumption) | assumption)
                                   have q314 : x11_6 < (((rd_T40 l0_0 (rd t296 x9_4)).f0).length : Int) := of_decide_eq_true (by first | (with_reducible assumption) | assumption)
                                   obtain ⟨ad314, e314, hx314_0⟩ := Kd.at_int HR312_0.out x11_6 p314 q314
                                   have hw314_0 := hx314_0
                                   cases e314
                                   replace hx314_0 := cl_ HB.out hx314_0
                                   replace p314 := eq_true p314
                                   replace q314 := eq_true q314
                                   obtain ⟨Ao71, co71, eo71⟩ := Kd.R_slice HO_8.out
                                   (first | subst eo71 | (injection eo71 with f1_ f2_ f3_; have f4_ := f1_.symm; have f5_ := f3_.symm; clear f1_ f2_ f3_; subst f4_; subst f5_))
                                   have p315 : 0 ≤ ((rd ((rd_T40 l0_0 (rd t296 x9_4)).f0) x11_6) : Int) := of_decide_eq_true (by first | (with_reducible assumption) | assumption)
                                   have q315 : (rd ((rd_T40 l0_0 (rd t296 x9_4)).f0) x11_6) < (x8_4.length : Int) := of_decide_eq_true (by first | (with_reducible assumption) | assumption)
                                   obtain ⟨ad315, e315, hx315_0⟩ := Kd.at_bool (Kd.R_reads' HO_8.out).2.2 (rd ((rd_T40 l0_0 (rd t296 x9_4)).f0) x11_6) p315 q315
                                   (try rw [← Nbq60.out] at hx315_0)
                                   cases e315
                                   replace p315 := eq_true p315
                                   replace q315 := eq_true q315
                                   have p316 : 0 ≤ (x11_6 : Int) := of_decide_eq_true (by first | (with_reducible assumption) | assumption)
                                   have q316 : x11_6 < (((rd_T40 l0_0 (rd t296 x9_4)).f0).length : Int) := of_decide_eq_true (by first | (with_reducible assumption) | assumption)
                                   obtain ⟨ad316, e316, hx316_0⟩ := Kd.at_int HR312_0.out x11_6 p316 q316
                                   have hw316_0 := hx316_0
                                   obtain rfl : ad314 = ad316 := (by injection e316)
                                   replace hx316_0 := cl_ HB.out hx316_0
                                   replace p316 := eq_true p316
                                   replace q316 := eq_true q316
                                   obtain ⟨Ao72, co72, eo72⟩ := Kd.R_slice HO_6.out
                                   (first | subst eo72 | (injection eo72 with f1_ f2_ f3_; have f4_ := f1_.symm; have f5_ := f3_.symm; clear f1_ f2_ f3_; subst f4_; subst f5_))
                                   have p317 : 0 ≤ ((rd ((rd_T40 l0_0 (rd t296 x9_4)).f0) x11_6) : Int) := of_decide_eq_true (by first | (with_reducible assumption) | assumption)
                                   have q317 : (rd ((rd_T40 l0_0 (rd t296 x9_4)).f0) x11_6) < (t300.length : Int) := of_decide_eq_true (by first | (with_reducible assumption) | assumption)
                                   obtain ⟨ad317, e317, hx317_0⟩ := Kd.at_int (Kd.R_reads' HO_6.out).2.2 (rd ((rd_T40 l0_0 (rd t296 x9_4)).f0) x11_6) p317 q317
                                   cases e317
                                   replace p317 := eq_true p317
                                   replace q317 := eq_true q317
                                   have p318 : 0 ≤ (x9_4 : Int) := of_decide_eq_true (by first | (with_reducible assumption) | assumption)
                                   have q318 : x9_4 < (t296.length : Int) := of_decide_eq_true (by first | (with_reducible assumption) | assumption)
                                   obtain ⟨ad318, e318, hx318_0⟩ := Kd.at_int (Kd.R_reads' HO_4.out).2.2 x9_4 p318 q318
                                   obtain rfl : ad311 = ad318 := (by injection e318)
                                   replace p318 := eq_true p318
                                   replace q318 := eq_true q318
                                   have p319 : 0 ≤ ((rd t296 x9_4) : Int) := of_decide_eq_true (by first | (with_reducible assumption) | assumption)
                                   have q319 : (rd t296 x9_4) < (t300.length : Int) := of_decide_eq_true (by first | (with_reducible assumption) | assumption)
                                   obtain ⟨ad319, e319, hx319_0⟩ := Kd.at_int (Kd.R_reads' HO_6.out).2.2 (rd t296 x9_4) p319 q319
                                   obtain rfl : ad317 = ad319 := (by injection e319)
                                   replace p319 := eq_true p319
                                   replace q319 := eq_true q319
                                   refine start_ (n := 27) (S := fun w' => w'.cell? ⟨gb313, 0, none⟩ = some (.slice (some ad314) ((rd_T40 l0_0 (rd t296 x9_4)).f0).length c312_0) ∧ w'.cell? ⟨gb313, 1, none⟩ = some (.int .i64 ((rd_T40 l0_0 (rd t296 x9_4)).f1)) ∧ w'.cell? ⟨gb313, 2, none⟩ = some (.int .i64 ((rd_T40 l0_0 (rd t296 x9_4)).f2)) ∧ w'.cell? (ad314.add (x11_6).toNat) = some (.int .i64 (rd ((rd_T40 l0_0 (rd t296 x9_4)).f0) x11_6)) ∧ w'.cell? (ad315.add ((rd ((rd_T40 l0_0 (rd t296 x9_4)).f0) x11_6)).toNat) = some (.bool true) ∧ w'.cell? (ad314.add (x11_6).toNat) = some (.int .i64 (rd ((rd_T40 l0_0 (rd t296 x9_4)).f0) x11_6)) ∧ w'.cell? (ad317.add ((rd ((rd_T40 l0_0 (rd t296 x9_4)).f0) x11_6)).toNat) = some (.int .i64 (rd t300 (rd ((rd_T40 l0_0 (rd t296 x9_4)).f0) x11_6))) ∧ w'.cell? (ad311.add (x9_4).toNat) = some (.int .i64 (rd t296 x9_4)) ∧ w'.cell? (ad317.add ((rd t296 x9_4)).toNat) = some (.int .i64 (rd t300 (rd t296 x9_4)))) (ds := []) (b_ 27 0) (by kernel_rfl) rfl rfl ⟨(blk_cell BK313.out 0).trans rfl, (blk_cell BK313.out 1).trans rfl, (blk_cell BK313.out 2).trans rfl, (cl_ HB.out hw314_0), hx315_0, (cl_ HB.out hw316_0), hx317_0, hx318_0, hx319_0⟩ (fun hHeld => ?_); refine with_tabW millhandlaw23_DagOrder.tab20 millhandlaw23_DagOrder.bits20 (fun HT_ HW_ => ?_)
                                   generalize wr.drew = w70 at HO_4 HO_6 HO_8 BK293 BK313 HB hx314_0 hx315_0 hx316_0 hx317_0 hx318_0 hx319_0 hHeld ⊢
                                   refine pA_ 0 104 ?_ (b_ 27 1) (any_of HT_.out (by kernel_rfl)) rfl rfl (fun _ _ _ h => h) (by rfl) ?_ ?_ ?_ ?_
                                   rotate_left
                                   ·
                                    intro w'
                                    go_simp
                                    with_reducible rfl
                                   rotate_left
                                   ·
                                    simp only [Act.put, sa_, s0_, s1_, i64_w, i32_w]
                                    rfl
                                   refine pA_ 1 105 ?_ (b_ 27 3) (any_of HT_.out (by kernel_rfl)) rfl rfl (fun _ _ _ h => h) (by rfl) ?_ ?_ ?_ ?_
                                   rotate_left
                                   ·
                                    intro w'
                                    go_simp
                                    with_reducible rfl
                                   rotate_left
                                   ·
                                    simp only [Act.put, sa_, s0_, s1_, i64_w, i32_w]
                                    rfl
                                   refine pA_ 3 107 ?_ (b_ 27 11) (any_of HT_.out (by kernel_rfl)) rfl rfl (fun _ _ _ h => h) (by rfl) ?_ ?_ ?_ ?_
                                   rotate_left
                                   ·
                                    intro w'
                                    go_simp
                                    with_reducible rfl
                                   rotate_left
                                   ·
                                    simp only [Act.put, sa_, s0_, s1_, i64_w, i32_w]
                                    rfl
                                   refine tA_ 2 106 ?_ (b_ 27 15) (take_ofW HT_.out HW_.out (by kernel_rfl)) rfl rfl (fun _ _ _ h => h) (by rfl) ?_ hHeld ?_ ?_ ?_
                                   rotate_left
                                   ·
                                    rintro w' ⟨s0, s1, s2, s3, s4, s5, s6, s7, s8⟩
                                    go_simp
                                    with_reducible rfl
                                   rotate_left
                                   ·
                                    simp only [Act.put, sa_, s0_, s1_, i64_w, i32_w]
                                    rfl
                                   refine pA_ 4 108 ?_ (b_ 27 31) (any_of HT_.out (by kernel_rfl)) rfl rfl (fun _ _ _ h => h) (by rfl) ?_ ?_ ?_ ?_
                                   rotate_left
                                   ·
                                    intro w'
                                    go_simp
                                    with_reducible rfl
                                   rotate_left
                                   ·
                                    simp only [Act.put, sa_, s0_, s1_, i64_w, i32_w]
                                    rfl
                                   refine tA_ 5 109 ?_ (b_ 27 63) (take_ofW HT_.out HW_.out (by kernel_rfl)) rfl rfl (fun _ _ _ h => h) (by rfl) ?_ hHeld ?_ ?_ ?_
                                   rotate_left
                                   ·
                                    rintro w' ⟨s0, s1, s2, s3, s4, s5, s6, s7, s8⟩
                                    go_simp
                                    with_reducible rfl
                                   rotate_left
                                   ·
                                    simp only [Act.put, sa_, s0_, s1_, i64_w, i32_w]
                                    rfl
                                   refine pA_ 6 110 ?_ (b_ 27 127) (any_of HT_.out (by kernel_rfl)) rfl rfl (fun _ _ _ h => h) (by rfl) ?_ ?_ ?_ ?_
                                   rotate_left
                                   ·
                                    intro w'
                                    go_simp
                                    with_reducible rfl
                                   rotate_left
                                   ·
                                    simp only [Act.put, sa_, s0_, s1_, i64_w, i32_w]
                                    rfl
                                   refine tA_ 7 111 ?_ (b_ 27 255) (take_ofW HT_.out HW_.out (by kernel_rfl)) rfl rfl (fun _ _ _ h => h) (by rfl) ?_ hHeld ?_ ?_ ?_
                                   rotate_left
                                   ·
                                    rintro w' ⟨s0, s1, s2, s3, s4, s5, s6, s7, s8⟩
                                    go_simp
                                    with_reducible rfl
                                   rotate_left
                                   ·
                                    simp only [Act.put, sa_, s0_, s1_, i64_w, i32_w]
                                    rfl
                                   refine pA_ 8 112 ?_ (b_ 27 511) (any_of HT_.out (by kernel_rfl)) rfl rfl (fun _ _ _ h => h) (by rfl) ?_ ?_ ?_ ?_
                                   rotate_left
                                   ·
                                    intro w'
                                    go_simp
                                    with_reducible rfl
                                   rotate_left
                                   ·
                                    simp only [Act.put, sa_, s0_, s1_, i64_w, i32_w]
                                    rfl
                                   refine pA_ 9 113 ?_ (b_ 27 1023) (any_of HT_.out (by kernel_rfl)) rfl rfl (fun _ _ _ h => h) (by rfl) ?_ ?_ ?_ ?_
                                   rotate_left
                                   ·
                                    intro w'
                                    go_simp
                                    with_reducible rfl
                                   rotate_left
                                   ·
                                    simp only [Act.put, sa_, s0_, s1_, i64_w, i32_w]
                                    rfl
                                   refine pA_ 10 114 ?_ (b_ 27 2047) (any_of HT_.out (by kernel_rfl)) rfl rfl (fun _ _ _ h => h) (by rfl) ?_ ?_ ?_ ?_
                                   rotate_left
                                   ·
                                    intro w'
                                    go_simp
                                    with_reducible rfl
                                   rotate_left
                                   ·
                                    simp only [Act.put, sa_, s0_, s1_, i64_w, i32_w]
                                    rfl
                                   refine pA_ 11 115 ?_ (b_ 27 4095) (any_of HT_.out (by kernel_rfl)) rfl rfl (fun _ _ _ h => h) (by rfl) ?_ ?_ ?_ ?_
                                   rotate_left
                                   ·
                                    intro w'
                                    go_simp
                                    with_reducible rfl
                                   rotate_left
                                   ·
                                    simp only [Act.put, sa_, s0_, s1_, i64_w, i32_w]
                                    rfl
                                   refine pA_ 13 117 ?_ (b_ 27 12287) (any_of HT_.out (by kernel_rfl)) rfl rfl (fun _ _ _ h => h) (by rfl) ?_ ?_ ?_ ?_
                                   rotate_left
                                   ·
                                    intro w'
                                    go_simp
                                    with_reducible rfl
                                   rotate_left
                                   ·
                                    simp only [Act.put, sa_, s0_, s1_, i64_w, i32_w]
                                    rfl
                                   refine pA_ 18 122 ?_ (b_ 27 274431) (any_of HT_.out (by kernel_rfl)) rfl rfl (fun _ _ _ h => h) (by rfl) ?_ ?_ ?_ ?_
                                   rotate_left
                                   ·
                                    intro w'
                                    go_simp
                                    with_reducible rfl
                                   rotate_left
                                   ·
                                    simp only [Act.put, sa_, s0_, s1_, i64_w, i32_w]
                                    rfl
                                   refine pA_ 19 123 ?_ (b_ 27 798719) (any_of HT_.out (by kernel_rfl)) rfl rfl (fun _ _ _ h => h) (by rfl) ?_ ?_ ?_ ?_
                                   rotate_left
                                   ·
                                    intro w'
                                    go_simp
                                    with_reducible rfl
                                   rotate_left
                                   ·
                                    simp only [Act.put, sa_, s0_, s1_, i64_w, i32_w]
                                    rfl
                                   refine pA_ 20 124 ?_ (b_ 27 1847295) (any_of HT_.out (by kernel_rfl)) rfl rfl (fun _ _ _ h => h) (by rfl) ?_ ?_ ?_ ?_
                                   rotate_left
                                   ·
                                    intro w'
                                    go_simp
                                    with_reducible rfl
                                   rotate_left
                                   ·
                                    simp only [Act.put, sa_, s0_, s1_, i64_w, i32_w]
                                    rfl
                                   refine pA_ 21 125 ?_ (b_ 27 3944447) (any_of HT_.out (by kernel_rfl)) rfl rfl (fun _ _ _ h => h) (by rfl) ?_ ?_ ?_ ?_
                                   rotate_left
                                   ·
                                    intro w'
                                    go_simp
                                    with_reducible rfl
                                   rotate_left
                                   ·
                                    simp only [Act.put, sa_, s0_, s1_, i64_w, i32_w]
                                    rfl
                                   refine tA_ 12 116 ?_ (b_ 27 3948543) (take_ofW HT_.out HW_.out (by kernel_rfl)) rfl rfl (fun _ _ _ h => h) (by rfl) ?_ hHeld ?_ ?_ ?_
                                   rotate_left
                                   ·
                                    rintro w' ⟨s0, s1, s2, s3, s4, s5, s6, s7, s8⟩
                                    go_simp
                                    with_reducible rfl
                                   rotate_left
                                   ·
                                    simp only [Act.put, sa_, s0_, s1_, i64_w, i32_w]
                                    rfl
                                   refine pA_ 14 118 ?_ (b_ 27 3964927) (any_of HT_.out (by kernel_rfl)) rfl rfl (fun _ _ _ h => h) (by rfl) ?_ ?_ ?_ ?_
                                   rotate_left
                                   ·
                                    intro w'
                                    go_simp
                                    with_reducible rfl
                                   rotate_left
                                   ·
                                    simp only [Act.put, sa_, s0_, s1_, i64_w, i32_w]
                                    rfl
                                   refine tA_ 15 119 ?_ (b_ 27 3997695) (take_ofW HT_.out HW_.out (by kernel_rfl)) rfl rfl (fun _ _ _ h => h) (by rfl) ?_ hHeld ?_ ?_ ?_
                                   rotate_left
                                   ·
                                    rintro w' ⟨s0, s1, s2, s3, s4, s5, s6, s7, s8⟩
                                    go_simp
                                    with_reducible rfl
                                   rotate_left
                                   ·
                                    simp only [Act.put, sa_, s0_, s1_, i64_w, i32_w]
                                    rfl
                                   refine pA_ 16 120 ?_ (b_ 27 4063231) (any_of HT_.out (by kernel_rfl)) rfl rfl (fun _ _ _ h => h) (by rfl) ?_ ?_ ?_ ?_
                                   rotate_left
                                   ·
                                    intro w'
                                    go_simp
                                    with_reducible rfl
                                   rotate_left
                                   ·
                                    simp only [Act.put, sa_, s0_, s1_, i64_w, i32_w]
                                    rfl
                                   refine tA_ 17 121 ?_ (b_ 27 4194303) (take_ofW HT_.out HW_.out (by kernel_rfl)) rfl rfl (fun _ _ _ h => h) (by rfl) ?_ hHeld ?_ ?_ ?_
                                   rotate_left
                                   ·
                                    rintro w' ⟨s0, s1, s2, s3, s4, s5, s6, s7, s8⟩
                                    go_simp
                                    with_reducible rfl
                                   rotate_left
                                   ·
                                    simp only [Act.put, sa_, s0_, s1_, i64_w, i32_w]
                                    rfl
                                   refine tA_ 22 126 ?_ (b_ 27 8388607) (take_ofW HT_.out HW_.out (by kernel_rfl)) rfl rfl (fun _ _ _ h => h) (by rfl) ?_ hHeld ?_ ?_ ?_
                                   rotate_left
                                   ·
                                    rintro w' ⟨s0, s1, s2, s3, s4, s5, s6, s7, s8⟩
                                    go_simp
                                    with_reducible rfl
                                   rotate_left
                                   ·
                                    simp only [Act.put, sa_, s0_, s1_, i64_w, i32_w]
                                    rfl
                                   refine pA_ 23 127 ?_ (b_ 27 16777215) (any_of HT_.out (by kernel_rfl)) rfl rfl (fun _ _ _ h => h) (by rfl) ?_ ?_ ?_ ?_
                                   rotate_left
                                   ·
                                    intro w'
                                    go_simp
                                    with_reducible rfl
                                   rotate_left
                                   ·
                                    simp only [Act.put, sa_, s0_, s1_, i64_w, i32_w]
                                    rfl
                                   refine tA_ 24 128 ?_ (b_ 27 33554431) (take_ofW HT_.out HW_.out (by kernel_rfl)) rfl rfl (fun _ _ _ h => h) (by rfl) ?_ hHeld ?_ ?_ ?_
                                   rotate_left
                                   ·
                                    rintro w' ⟨s0, s1, s2, s3, s4, s5, s6, s7, s8⟩
                                    go_simp
                                    with_reducible rfl
                                   rotate_left
                                   ·
                                    simp only [Act.put, sa_, s0_, s1_, i64_w, i32_w]
                                    rfl
                                   refine pA_ 25 129 ?_ (b_ 27 67108863) (any_of HT_.out (by kernel_rfl)) rfl rfl (fun _ _ _ h => h) (by rfl) ?_ ?_ ?_ ?_
                                   rotate_left
                                   ·
                                    intro w'
                                    go_simp
                                    with_reducible rfl
                                   rotate_left
                                   ·
                                    simp only [Act.put, sa_, s0_, s1_, i64_w, i32_w]
                                    rfl
                                   refine pA_ 26 130 ?_ (b_ 27 134217727) (any_of HT_.out (by kernel_rfl)) rfl rfl (fun _ _ _ h => h) (by rfl) ?_ ?_ ?_ ?_
                                   rotate_left
                                   ·
                                    intro w'
                                    go_simp
                                    with_reducible rfl
                                   rotate_left
                                   ·
                                    simp only [Act.put, sa_, s0_, s1_, i64_w, i32_w]
                                    rfl
                                   refine done_ (done_of HT_.out (by kernel_rfl)) ?_
                                   try go_wp2
                                   go_ret
                                   exact ⟨by first | rfl | (simp [errW_none, errW_some] <;> rfl) | (simp [*, errW_none, errW_some] <;> rfl) | exact ret_ie _ | (simp [*, errW_none, errW_some, bne]; done), by repeat (first | (with_reducible first | exact HB.out | apply below_alloc | apply pw_below_drewN | apply below_drew1 | refine below_set ?_ GE293.out | refine below_set ?_ GE313.out) | exact HB.out)⟩
                                  ·
                                   rw [if_neg c67] at H
                                   have c67b0 : decide ((rd t300 (rd t296 x9_4)) ≤ (rd t300 (rd ((rd_T40 l0_0 (rd t296 x9_4)).f0) x11_6))) = false := decide_eq_false c67
                                   clear c67
                                   have H' := Aside0.mk H
                                   clear H
                                   have hnb73 := NB313_293.out
                                   have hnc73 := NB293_313.out
                                   have hcz74_0 : wr.cell? ⟨gb313, 0, none⟩ = some (.slice A312_0 ((rd_T40 l0_0 (rd t296 x9_4)).f0).length c312_0) := (blk_cell BK313.out 0).trans rfl
                                   have hcz74_1 : wr.cell? ⟨gb313, 1, none⟩ = some (.int .i64 ((rd_T40 l0_0 (rd t296 x9_4)).f1)) := (blk_cell BK313.out 1).trans rfl
                                   have hcz74_2 : wr.cell? ⟨gb313, 2, none⟩ = some (.int .i64 ((rd_T40 l0_0 (rd t296 x9_4)).f2)) := (blk_cell BK313.out 2).trans rfl
                                   have hfz74_0 := blk_frozen BK313.out 0
                                   have hfz74_1 := blk_frozen BK313.out 1
                                   have hfz74_2 := blk_frozen BK313.out 2
                                   try go_wp2
                                   have n0_ := Aside0.mk (Kd.R_drew HO_4.out)
                                   have n1_ := Aside0.mk (Kd.R_drew HO_6.out)
                                   have n2_ := Aside0.mk (Kd.R_drew HO_8.out)
                                   have n3_ := Aside0.mk (blk_drew BK293.out)
                                   have n4_ := Aside0.mk (blk_drew BK313.out)
                                   have n5_ := Aside0.mk (below_drew1 HB.out)
                                   clear HO_4
                                   clear HO_6
                                   clear HO_8
                                   clear BK293
                                   clear BK313
                                   clear HB
                                   have HO_4 := n0_
                                   have HO_6 := n1_
                                   have HO_8 := n2_
                                   have BK293 := n3_
                                   have BK313 := n4_
                                   have HB := n5_
                                   clear n0_ n1_ n2_ n3_ n4_ n5_
                                   have p314 : 0 ≤ (x11_6 : Int) := of_decide_eq_true (by first | (with_reducible assumption) | assumption)
                                   have q314 : x11_6 < (((rd_T40 l0_0 (rd t296 x9_4)).f0).length : Int) := of_decide_eq_true (by first | (with_reducible assumption) | assumption)
                                   obtain ⟨ad314, e314, hx314_0⟩ := Kd.at_int HR312_0.out x11_6 p314 q314
                                   have hw314_0 := hx314_0
                                   cases e314
                                   replace hx314_0 := cl_ HB.out hx314_0
                                   replace p314 := eq_true p314
                                   replace q314 := eq_true q314
                                   obtain ⟨Ao76, co76, eo76⟩ := Kd.R_slice HO_8.out
                                   (first | subst eo76 | (injection eo76 with f1_ f2_ f3_; have f4_ := f1_.symm; have f5_ := f3_.symm; clear f1_ f2_ f3_; subst f4_; subst f5_))
                                   have p315 : 0 ≤ ((rd ((rd_T40 l0_0 (rd t296 x9_4)).f0) x11_6) : Int) := of_decide_eq_true (by first | (with_reducible assumption) | assumption)
                                   have q315 : (rd ((rd_T40 l0_0 (rd t296 x9_4)).f0) x11_6) < (x8_4.length : Int) := of_decide_eq_true (by first | (with_reducible assumption) | assumption)
                                   obtain ⟨ad315, e315, hx315_0⟩ := Kd.at_bool (Kd.R_reads' HO_8.out).2.2 (rd ((rd_T40 l0_0 (rd t296 x9_4)).f0) x11_6) p315 q315
                                   (try rw [← Nbq60.out] at hx315_0)
                                   cases e315
                                   replace p315 := eq_true p315
                                   replace q315 := eq_true q315
                                   have p316 : 0 ≤ (x11_6 : Int) := of_decide_eq_true (by first | (with_reducible assumption) | assumption)
                                   have q316 : x11_6 < (((rd_T40 l0_0 (rd t296 x9_4)).f0).length : Int) := of_decide_eq_true (by first | (with_reducible assumption) | assumption)
                                   obtain ⟨ad316, e316, hx316_0⟩ := Kd.at_int HR312_0.out x11_6 p316 q316
                                   have hw316_0 := hx316_0
                                   obtain rfl : ad314 = ad316 := (by injection e316)
                                   replace hx316_0 := cl_ HB.out hx316_0
                                   replace p316 := eq_true p316
                                   replace q316 := eq_true q316
                                   obtain ⟨Ao77, co77, eo77⟩ := Kd.R_slice HO_6.out
                                   (first | subst eo77 | (injection eo77 with f1_ f2_ f3_; have f4_ := f1_.symm; have f5_ := f3_.symm; clear f1_ f2_ f3_; subst f4_; subst f5_))
                                   have p317 : 0 ≤ ((rd ((rd_T40 l0_0 (rd t296 x9_4)).f0) x11_6) : Int) := of_decide_eq_true (by first | (with_reducible assumption) | assumption)
                                   have q317 : (rd ((rd_T40 l0_0 (rd t296 x9_4)).f0) x11_6) < (t300.length : Int) := of_decide_eq_true (by first | (with_reducible assumption) | assumption)
                                   obtain ⟨ad317, e317, hx317_0⟩ := Kd.at_int (Kd.R_reads' HO_6.out).2.2 (rd ((rd_T40 l0_0 (rd t296 x9_4)).f0) x11_6) p317 q317
                                   cases e317
                                   replace p317 := eq_true p317
                                   replace q317 := eq_true q317
                                   have p318 : 0 ≤ (x9_4 : Int) := of_decide_eq_true (by first | (with_reducible assumption) | assumption)
                                   have q318 : x9_4 < (t296.length : Int) := of_decide_eq_true (by first | (with_reducible assumption) | assumption)
                                   obtain ⟨ad318, e318, hx318_0⟩ := Kd.at_int (Kd.R_reads' HO_4.out).2.2 x9_4 p318 q318
                                   obtain rfl : ad311 = ad318 := (by injection e318)
                                   replace p318 := eq_true p318
                                   replace q318 := eq_true q318
                                   have p319 : 0 ≤ ((rd t296 x9_4) : Int) := of_decide_eq_true (by first | (with_reducible assumption) | assumption)
                                   have q319 : (rd t296 x9_4) < (t300.length : Int) := of_decide_eq_true (by first | (with_reducible assumption) | assumption)
                                   obtain ⟨ad319, e319, hx319_0⟩ := Kd.at_int (Kd.R_reads' HO_6.out).2.2 (rd t296 x9_4) p319 q319
                                   obtain rfl : ad317 = ad319 := (by injection e319)
                                   replace p319 := eq_true p319
                                   replace q319 := eq_true q319
                                   refine start_ (n := 27) (S := fun w' => w'.cell? ⟨gb313, 0, none⟩ = some (.slice (some ad314) ((rd_T40 l0_0 (rd t296 x9_4)).f0).length c312_0) ∧ w'.cell? ⟨gb313, 1, none⟩ = some (.int .i64 ((rd_T40 l0_0 (rd t296 x9_4)).f1)) ∧ w'.cell? ⟨gb313, 2, none⟩ = some (.int .i64 ((rd_T40 l0_0 (rd t296 x9_4)).f2)) ∧ w'.cell? (ad314.add (x11_6).toNat) = some (.int .i64 (rd ((rd_T40 l0_0 (rd t296 x9_4)).f0) x11_6)) ∧ w'.cell? (ad315.add ((rd ((rd_T40 l0_0 (rd t296 x9_4)).f0) x11_6)).toNat) = some (.bool true) ∧ w'.cell? (ad314.add (x11_6).toNat) = some (.int .i64 (rd ((rd_T40 l0_0 (rd t296 x9_4)).f0) x11_6)) ∧ w'.cell? (ad317.add ((rd ((rd_T40 l0_0 (rd t296 x9_4)).f0) x11_6)).toNat) = some (.int .i64 (rd t300 (rd ((rd_T40 l0_0 (rd t296 x9_4)).f0) x11_6))) ∧ w'.cell? (ad311.add (x9_4).toNat) = some (.int .i64 (rd t296 x9_4)) ∧ w'.cell? (ad317.add ((rd t296 x9_4)).toNat) = some (.int .i64 (rd t300 (rd t296 x9_4)))) (ds := []) (b_ 27 0) (by kernel_rfl) rfl rfl ⟨(blk_cell BK313.out 0).trans rfl, (blk_cell BK313.out 1).trans rfl, (blk_cell BK313.out 2).trans rfl, (cl_ HB.out hw314_0), hx315_0, (cl_ HB.out hw316_0), hx317_0, hx318_0, hx319_0⟩ (fun hHeld => ?_); refine with_tabW millhandlaw23_DagOrder.tab20 millhandlaw23_DagOrder.bits20 (fun HT_ HW_ => ?_)
                                   generalize wr.drew = w75 at HO_4 HO_6 HO_8 BK293 BK313 HB hx314_0 hx315_0 hx316_0 hx317_0 hx318_0 hx319_0 hHeld ⊢
                                   refine pA_ 0 104 ?_ (b_ 27 1) (any_of HT_.out (by kernel_rfl)) rfl rfl (fun _ _ _ h => h) (by rfl) ?_ ?_ ?_ ?_
                                   rotate_left
                                   ·
                                    intro w'
                                    go_simp
                                    with_reducible rfl
                                   rotate_left
                                   ·
                                    simp only [Act.put, sa_, s0_, s1_, i64_w, i32_w]
                                    rfl
                                   refine pA_ 1 105 ?_ (b_ 27 3) (any_of HT_.out (by kernel_rfl)) rfl rfl (fun _ _ _ h => h) (by rfl) ?_ ?_ ?_ ?_
                                   rotate_left
                                   ·
                                    intro w'
                                    go_simp
                                    with_reducible rfl
                                   rotate_left
                                   ·
                                    simp only [Act.put, sa_, s0_, s1_, i64_w, i32_w]
                                    rfl
                                   refine pA_ 3 107 ?_ (b_ 27 11) (any_of HT_.out (by kernel_rfl)) rfl rfl (fun _ _ _ h => h) (by rfl) ?_ ?_ ?_ ?_
                                   rotate_left
                                   ·
                                    intro w'
                                    go_simp
                                    with_reducible rfl
                                   rotate_left
                                   ·
                                    simp only [Act.put, sa_, s0_, s1_, i64_w, i32_w]
                                    rfl
                                   refine tA_ 2 106 ?_ (b_ 27 15) (take_ofW HT_.out HW_.out (by kernel_rfl)) rfl rfl (fun _ _ _ h => h) (by rfl) ?_ hHeld ?_ ?_ ?_
                                   rotate_left
                                   ·
                                    rintro w' ⟨s0, s1, s2, s3, s4, s5, s6, s7, s8⟩
                                    go_simp
                                    with_reducible rfl
                                   rotate_left
                                   ·
                                    simp only [Act.put, sa_, s0_, s1_, i64_w, i32_w]
                                    rfl
                                   refine pA_ 4 108 ?_ (b_ 27 31) (any_of HT_.out (by kernel_rfl)) rfl rfl (fun _ _ _ h => h) (by rfl) ?_ ?_ ?_ ?_
                                   rotate_left
                                   ·
                                    intro w'
                                    go_simp
                                    with_reducible rfl
                                   rotate_left
                                   ·
                                    simp only [Act.put, sa_, s0_, s1_, i64_w, i32_w]
                                    rfl
                                   refine tA_ 5 109 ?_ (b_ 27 63) (take_ofW HT_.out HW_.out (by kernel_rfl)) rfl rfl (fun _ _ _ h => h) (by rfl) ?_ hHeld ?_ ?_ ?_
                                   rotate_left
                                   ·
                                    rintro w' ⟨s0, s1, s2, s3, s4, s5, s6, s7, s8⟩
                                    go_simp
                                    with_reducible rfl
                                   rotate_left
                                   ·
                                    simp only [Act.put, sa_, s0_, s1_, i64_w, i32_w]
                                    rfl
                                   refine pA_ 6 110 ?_ (b_ 27 127) (any_of HT_.out (by kernel_rfl)) rfl rfl (fun _ _ _ h => h) (by rfl) ?_ ?_ ?_ ?_
                                   rotate_left
                                   ·
                                    intro w'
                                    go_simp
                                    with_reducible rfl
                                   rotate_left
                                   ·
                                    simp only [Act.put, sa_, s0_, s1_, i64_w, i32_w]
                                    rfl
                                   refine tA_ 7 111 ?_ (b_ 27 255) (take_ofW HT_.out HW_.out (by kernel_rfl)) rfl rfl (fun _ _ _ h => h) (by rfl) ?_ hHeld ?_ ?_ ?_
                                   rotate_left
                                   ·
                                    rintro w' ⟨s0, s1, s2, s3, s4, s5, s6, s7, s8⟩
                                    go_simp
                                    with_reducible rfl
                                   rotate_left
                                   ·
                                    simp only [Act.put, sa_, s0_, s1_, i64_w, i32_w]
                                    rfl
                                   refine pA_ 8 112 ?_ (b_ 27 511) (any_of HT_.out (by kernel_rfl)) rfl rfl (fun _ _ _ h => h) (by rfl) ?_ ?_ ?_ ?_
                                   rotate_left
                                   ·
                                    intro w'
                                    go_simp
                                    with_reducible rfl
                                   rotate_left
                                   ·
                                    simp only [Act.put, sa_, s0_, s1_, i64_w, i32_w]
                                    rfl
                                   refine pA_ 9 113 ?_ (b_ 27 1023) (any_of HT_.out (by kernel_rfl)) rfl rfl (fun _ _ _ h => h) (by rfl) ?_ ?_ ?_ ?_
                                   rotate_left
                                   ·
                                    intro w'
                                    go_simp
                                    with_reducible rfl
                                   rotate_left
                                   ·
                                    simp only [Act.put, sa_, s0_, s1_, i64_w, i32_w]
                                    rfl
                                   refine pA_ 10 114 ?_ (b_ 27 2047) (any_of HT_.out (by kernel_rfl)) rfl rfl (fun _ _ _ h => h) (by rfl) ?_ ?_ ?_ ?_
                                   rotate_left
                                   ·
                                    intro w'
                                    go_simp
                                    with_reducible rfl
                                   rotate_left
                                   ·
                                    simp only [Act.put, sa_, s0_, s1_, i64_w, i32_w]
                                    rfl
                                   refine pA_ 11 115 ?_ (b_ 27 4095) (any_of HT_.out (by kernel_rfl)) rfl rfl (fun _ _ _ h => h) (by rfl) ?_ ?_ ?_ ?_
                                   rotate_left
                                   ·
                                    intro w'
                                    go_simp
                                    with_reducible rfl
                                   rotate_left
                                   ·
                                    simp only [Act.put, sa_, s0_, s1_, i64_w, i32_w]
                                    rfl
                                   refine pA_ 13 117 ?_ (b_ 27 12287) (any_of HT_.out (by kernel_rfl)) rfl rfl (fun _ _ _ h => h) (by rfl) ?_ ?_ ?_ ?_
                                   rotate_left
                                   ·
                                    intro w'
                                    go_simp
                                    with_reducible rfl
                                   rotate_left
                                   ·
                                    simp only [Act.put, sa_, s0_, s1_, i64_w, i32_w]
                                    rfl
                                   refine pA_ 18 122 ?_ (b_ 27 274431) (any_of HT_.out (by kernel_rfl)) rfl rfl (fun _ _ _ h => h) (by rfl) ?_ ?_ ?_ ?_
                                   rotate_left
                                   ·
                                    intro w'
                                    go_simp
                                    with_reducible rfl
                                   rotate_left
                                   ·
                                    simp only [Act.put, sa_, s0_, s1_, i64_w, i32_w]
                                    rfl
                                   refine pA_ 19 123 ?_ (b_ 27 798719) (any_of HT_.out (by kernel_rfl)) rfl rfl (fun _ _ _ h => h) (by rfl) ?_ ?_ ?_ ?_
                                   rotate_left
                                   ·
                                    intro w'
                                    go_simp
                                    with_reducible rfl
                                   rotate_left
                                   ·
                                    simp only [Act.put, sa_, s0_, s1_, i64_w, i32_w]
                                    rfl
                                   refine pA_ 20 124 ?_ (b_ 27 1847295) (any_of HT_.out (by kernel_rfl)) rfl rfl (fun _ _ _ h => h) (by rfl) ?_ ?_ ?_ ?_
                                   rotate_left
                                   ·
                                    intro w'
                                    go_simp
                                    with_reducible rfl
                                   rotate_left
                                   ·
                                    simp only [Act.put, sa_, s0_, s1_, i64_w, i32_w]
                                    rfl
                                   refine pA_ 21 125 ?_ (b_ 27 3944447) (any_of HT_.out (by kernel_rfl)) rfl rfl (fun _ _ _ h => h) (by rfl) ?_ ?_ ?_ ?_
                                   rotate_left
                                   ·
                                    intro w'
                                    go_simp
                                    with_reducible rfl
                                   rotate_left
                                   ·
                                    simp only [Act.put, sa_, s0_, s1_, i64_w, i32_w]
                                    rfl
                                   refine tA_ 12 116 ?_ (b_ 27 3948543) (take_ofW HT_.out HW_.out (by kernel_rfl)) rfl rfl (fun _ _ _ h => h) (by rfl) ?_ hHeld ?_ ?_ ?_
                                   rotate_left
                                   ·
                                    rintro w' ⟨s0, s1, s2, s3, s4, s5, s6, s7, s8⟩
                                    go_simp
                                    with_reducible rfl
                                   rotate_left
                                   ·
                                    simp only [Act.put, sa_, s0_, s1_, i64_w, i32_w]
                                    rfl
                                   refine pA_ 14 118 ?_ (b_ 27 3964927) (any_of HT_.out (by kernel_rfl)) rfl rfl (fun _ _ _ h => h) (by rfl) ?_ ?_ ?_ ?_
                                   rotate_left
                                   ·
                                    intro w'
                                    go_simp
                                    with_reducible rfl
                                   rotate_left
                                   ·
                                    simp only [Act.put, sa_, s0_, s1_, i64_w, i32_w]
                                    rfl
                                   refine tA_ 15 119 ?_ (b_ 27 3997695) (take_ofW HT_.out HW_.out (by kernel_rfl)) rfl rfl (fun _ _ _ h => h) (by rfl) ?_ hHeld ?_ ?_ ?_
                                   rotate_left
                                   ·
                                    rintro w' ⟨s0, s1, s2, s3, s4, s5, s6, s7, s8⟩
                                    go_simp
                                    with_reducible rfl
                                   rotate_left
                                   ·
                                    simp only [Act.put, sa_, s0_, s1_, i64_w, i32_w]
                                    rfl
                                   refine pA_ 16 120 ?_ (b_ 27 4063231) (any_of HT_.out (by kernel_rfl)) rfl rfl (fun _ _ _ h => h) (by rfl) ?_ ?_ ?_ ?_
                                   rotate_left
                                   ·
                                    intro w'
                                    go_simp
                                    with_reducible rfl
                                   rotate_left
                                   ·
                                    simp only [Act.put, sa_, s0_, s1_, i64_w, i32_w]
                                    rfl
                                   refine tA_ 17 121 ?_ (b_ 27 4194303) (take_ofW HT_.out HW_.out (by kernel_rfl)) rfl rfl (fun _ _ _ h => h) (by rfl) ?_ hHeld ?_ ?_ ?_
                                   rotate_left
                                   ·
                                    rintro w' ⟨s0, s1, s2, s3, s4, s5, s6, s7, s8⟩
                                    go_simp
                                    with_reducible rfl
                                   rotate_left
                                   ·
                                    simp only [Act.put, sa_, s0_, s1_, i64_w, i32_w]
                                    rfl
                                   refine tA_ 22 126 ?_ (b_ 27 8388607) (take_ofW HT_.out HW_.out (by kernel_rfl)) rfl rfl (fun _ _ _ h => h) (by rfl) ?_ hHeld ?_ ?_ ?_
                                   rotate_left
                                   ·
                                    rintro w' ⟨s0, s1, s2, s3, s4, s5, s6, s7, s8⟩
                                    go_simp
                                    with_reducible rfl
                                   rotate_left
                                   ·
                                    simp only [Act.put, sa_, s0_, s1_, i64_w, i32_w]
                                    rfl
                                   refine pA_ 23 127 ?_ (b_ 27 16777215) (any_of HT_.out (by kernel_rfl)) rfl rfl (fun _ _ _ h => h) (by rfl) ?_ ?_ ?_ ?_
                                   rotate_left
                                   ·
                                    intro w'
                                    go_simp
                                    with_reducible rfl
                                   rotate_left
                                   ·
                                    simp only [Act.put, sa_, s0_, s1_, i64_w, i32_w]
                                    rfl
                                   refine tA_ 24 128 ?_ (b_ 27 33554431) (take_ofW HT_.out HW_.out (by kernel_rfl)) rfl rfl (fun _ _ _ h => h) (by rfl) ?_ hHeld ?_ ?_ ?_
                                   rotate_left
                                   ·
                                    rintro w' ⟨s0, s1, s2, s3, s4, s5, s6, s7, s8⟩
                                    go_simp
                                    with_reducible rfl
                                   rotate_left
                                   ·
                                    simp only [Act.put, sa_, s0_, s1_, i64_w, i32_w]
                                    rfl
                                   refine pA_ 25 129 ?_ (b_ 27 67108863) (any_of HT_.out (by kernel_rfl)) rfl rfl (fun _ _ _ h => h) (by rfl) ?_ ?_ ?_ ?_
                                   rotate_left
                                   ·
                                    intro w'
                                    go_simp
                                    with_reducible rfl
                                   rotate_left
                                   ·
                                    simp only [Act.put, sa_, s0_, s1_, i64_w, i32_w]
                                    rfl
                                   refine pA_ 26 130 ?_ (b_ 27 134217727) (any_of HT_.out (by kernel_rfl)) rfl rfl (fun _ _ _ h => h) (by rfl) ?_ ?_ ?_ ?_
                                   rotate_left
                                   ·
                                    intro w'
                                    go_simp
                                    with_reducible rfl
                                   rotate_left
                                   ·
                                    simp only [Act.put, sa_, s0_, s1_, i64_w, i32_w]
                                    rfl
                                   refine done_ (done_of HT_.out (by kernel_rfl)) ?_
                                   try go_wp2
                                   go_roundg k6
                                   case measure => have := HJ2.out; have := HJ14.out; have := HJ23.out; have := HK4.out; have := HJ37.out; have := HK6.out; omega
                                   case rel => exact ⟨(wrap64 (x11_6 + 1)), (by first | rfl | (simp; done) | (simp [*]; done)), H', ⟨by have := HJ2.out; have := HJ14.out; have := HJ23.out; have := HK4.out; have := HJ37.out; have := HK6.out; omega⟩, ⟨by (with_reducible repeat (first | apply Kd.R_alloc | apply Kd.R_drewN | apply Kd.R_drew)); exact HO_4.out⟩, ⟨by (with_reducible repeat (first | apply Kd.R_alloc | apply Kd.R_drewN | apply Kd.R_drew)); exact HO_6.out⟩, ⟨by (with_reducible repeat (first | apply Kd.R_alloc | apply Kd.R_drewN | apply Kd.R_drew)); exact HO_8.out⟩, ⟨by (with_reducible repeat (first | refine blk_drewN ?_ _ | refine blk_drew ?_ | refine blk_alloc ?_ _)); exact BK293.out⟩, ⟨by (with_reducible repeat (first | refine blk_drewN ?_ _ | refine blk_drew ?_ | refine blk_alloc ?_ _)); exact BK313.out⟩, ⟨by repeat (first | (with_reducible first | exact HB.out | apply below_alloc | apply pw_below_drewN | apply below_drew1 | refine below_set ?_ GE293.out | refine below_set ?_ GE313.out) | exact HB.out)⟩⟩
                                 ·
                                  rw [if_neg c66] at H
                                  exact absurd H (by simp)
                                ·
                                 rw [if_neg c65] at H
                                 exact absurd H (by simp)
                               ·
                                rw [if_neg c64] at H
                                exact absurd H (by simp)
                              ·
                               rw [if_neg c63] at H
                               exact absurd H (by simp)
                             ·
                              rw [if_neg c62] at H
                              exact absurd H (by simp)
                            ·
                             replace c61 := Bool.eq_false_iff.mpr c61
                             subst c61
                             have H1 : (some false) = some r := by rw [if_neg (show ¬ (false = true) by decide)] at H; exact H
                             clear H
                             have H := H1
                             clear H1
                             obtain rfl := Option.some.inj H
                             have hnb78 := NB313_293.out
                             have hnc78 := NB293_313.out
                             have hcz79_0 : wr.cell? ⟨gb313, 0, none⟩ = some (.slice A312_0 ((rd_T40 l0_0 (rd t296 x9_4)).f0).length c312_0) := (blk_cell BK313.out 0).trans rfl
                             have hcz79_1 : wr.cell? ⟨gb313, 1, none⟩ = some (.int .i64 ((rd_T40 l0_0 (rd t296 x9_4)).f1)) := (blk_cell BK313.out 1).trans rfl
                             have hcz79_2 : wr.cell? ⟨gb313, 2, none⟩ = some (.int .i64 ((rd_T40 l0_0 (rd t296 x9_4)).f2)) := (blk_cell BK313.out 2).trans rfl
                             have hfz79_0 := blk_frozen BK313.out 0
                             have hfz79_1 := blk_frozen BK313.out 1
                             have hfz79_2 := blk_frozen BK313.out 2
                             try go_wp2
                             have n0_ := Aside0.mk (Kd.R_drew HO_4.out)
                             have n1_ := Aside0.mk (Kd.R_drew HO_6.out)
                             have n2_ := Aside0.mk (Kd.R_drew HO_8.out)
                             have n3_ := Aside0.mk (blk_drew BK293.out)
                             have n4_ := Aside0.mk (blk_drew BK313.out)
                             have n5_ := Aside0.mk (below_drew1 HB.out)
                             clear HO_4
                             clear HO_6
                             clear HO_8
                             clear BK293
                             clear BK313
                             clear HB
                             have HO_4 := n0_
                             have HO_6 := n1_
                             have HO_8 := n2_
                             have BK293 := n3_
                             have BK313 := n4_
                             have HB := n5_
                             clear n0_ n1_ n2_ n3_ n4_ n5_
                             have p314 : 0 ≤ (x11_6 : Int) := of_decide_eq_true (by first | (with_reducible assumption) | assumption)
                             have q314 : x11_6 < (((rd_T40 l0_0 (rd t296 x9_4)).f0).length : Int) := of_decide_eq_true (by first | (with_reducible assumption) | assumption)
                             obtain ⟨ad314, e314, hx314_0⟩ := Kd.at_int HR312_0.out x11_6 p314 q314
                             have hw314_0 := hx314_0
                             cases e314
                             replace hx314_0 := cl_ HB.out hx314_0
                             replace p314 := eq_true p314
                             replace q314 := eq_true q314
                             obtain ⟨Ao81, co81, eo81⟩ := Kd.R_slice HO_8.out
                             (first | subst eo81 | (injection eo81 with f1_ f2_ f3_; have f4_ := f1_.symm; have f5_ := f3_.symm; clear f1_ f2_ f3_; subst f4_; subst f5_))
                             have p315 : 0 ≤ ((rd ((rd_T40 l0_0 (rd t296 x9_4)).f0) x11_6) : Int) := of_decide_eq_true (by first | (with_reducible assumption) | assumption)
                             have q315 : (rd ((rd_T40 l0_0 (rd t296 x9_4)).f0) x11_6) < (x8_4.length : Int) := of_decide_eq_true (by first | (with_reducible assumption) | assumption)
                             obtain ⟨ad315, e315, hx315_0⟩ := Kd.at_bool (Kd.R_reads' HO_8.out).2.2 (rd ((rd_T40 l0_0 (rd t296 x9_4)).f0) x11_6) p315 q315
                             (try rw [← Nbq60.out] at hx315_0)
                             cases e315
                             replace p315 := eq_true p315
                             replace q315 := eq_true q315
                             refine start_ (n := 27) (S := fun w' => w'.cell? ⟨gb313, 0, none⟩ = some (.slice (some ad314) ((rd_T40 l0_0 (rd t296 x9_4)).f0).length c312_0) ∧ w'.cell? ⟨gb313, 1, none⟩ = some (.int .i64 ((rd_T40 l0_0 (rd t296 x9_4)).f1)) ∧ w'.cell? ⟨gb313, 2, none⟩ = some (.int .i64 ((rd_T40 l0_0 (rd t296 x9_4)).f2)) ∧ w'.cell? (ad314.add (x11_6).toNat) = some (.int .i64 (rd ((rd_T40 l0_0 (rd t296 x9_4)).f0) x11_6)) ∧ w'.cell? (ad315.add ((rd ((rd_T40 l0_0 (rd t296 x9_4)).f0) x11_6)).toNat) = some (.bool false)) (ds := []) (b_ 27 0) (by kernel_rfl) rfl rfl ⟨(blk_cell BK313.out 0).trans rfl, (blk_cell BK313.out 1).trans rfl, (blk_cell BK313.out 2).trans rfl, (cl_ HB.out hw314_0), hx315_0⟩ (fun hHeld => ?_); refine with_tabW millhandlaw23_DagOrder.tab20 millhandlaw23_DagOrder.bits20 (fun HT_ HW_ => ?_)
                             generalize wr.drew = w80 at HO_4 HO_6 HO_8 BK293 BK313 HB hx314_0 hx315_0 hHeld ⊢
                             refine pA_ 0 104 ?_ (b_ 27 1) (any_of HT_.out (by kernel_rfl)) rfl rfl (fun _ _ _ h => h) (by rfl) ?_ ?_ ?_ ?_
                             rotate_left
                             ·
                              intro w'
                              go_simp
                              with_reducible rfl
                             rotate_left
                             ·
                              simp only [Act.put, sa_, s0_, s1_, i64_w, i32_w]
                              rfl
                             refine pA_ 1 105 ?_ (b_ 27 3) (any_of HT_.out (by kernel_rfl)) rfl rfl (fun _ _ _ h => h) (by rfl) ?_ ?_ ?_ ?_
                             rotate_left
                             ·
                              intro w'
                              go_simp
                              with_reducible rfl
                             rotate_left
                             ·
                              simp only [Act.put, sa_, s0_, s1_, i64_w, i32_w]
                              rfl
                             refine pA_ 3 107 ?_ (b_ 27 11) (any_of HT_.out (by kernel_rfl)) rfl rfl (fun _ _ _ h => h) (by rfl) ?_ ?_ ?_ ?_
                             rotate_left
                             ·
                              intro w'
                              go_simp
                              with_reducible rfl
                             rotate_left
                             ·
                              simp only [Act.put, sa_, s0_, s1_, i64_w, i32_w]
                              rfl
                             refine tA_ 2 106 ?_ (b_ 27 15) (take_ofW HT_.out HW_.out (by kernel_rfl)) rfl rfl (fun _ _ _ h => h) (by rfl) ?_ hHeld ?_ ?_ ?_
                             rotate_left
                             ·
                              rintro w' ⟨s0, s1, s2, s3, s4⟩
                              go_simp
                              with_reducible rfl
                             rotate_left
                             ·
                              simp only [Act.put, sa_, s0_, s1_, i64_w, i32_w]
                              rfl
                             refine pA_ 4 108 ?_ (b_ 27 31) (any_of HT_.out (by kernel_rfl)) rfl rfl (fun _ _ _ h => h) (by rfl) ?_ ?_ ?_ ?_
                             rotate_left
                             ·
                              intro w'
                              go_simp
                              with_reducible rfl
                             rotate_left
                             ·
                              simp only [Act.put, sa_, s0_, s1_, i64_w, i32_w]
                              rfl
                             refine tA_ 5 109 ?_ (b_ 27 63) (take_ofW HT_.out HW_.out (by kernel_rfl)) rfl rfl (fun _ _ _ h => h) (by rfl) ?_ hHeld ?_ ?_ ?_
                             rotate_left
                             ·
                              rintro w' ⟨s0, s1, s2, s3, s4⟩
                              go_simp
                              with_reducible rfl
                             rotate_left
                             ·
                              simp only [Act.put, sa_, s0_, s1_, i64_w, i32_w]
                              rfl
                             refine pA_ 6 110 ?_ (b_ 27 127) (any_of HT_.out (by kernel_rfl)) rfl rfl (fun _ _ _ h => h) (by rfl) ?_ ?_ ?_ ?_
                             rotate_left
                             ·
                              intro w'
                              go_simp
                              with_reducible rfl
                             rotate_left
                             ·
                              simp only [Act.put, sa_, s0_, s1_, i64_w, i32_w]
                              rfl
                             refine tA_ 7 111 ?_ (b_ 27 255) (take_ofW HT_.out HW_.out (by kernel_rfl)) rfl rfl (fun _ _ _ h => h) (by rfl) ?_ hHeld ?_ ?_ ?_
                             rotate_left
                             ·
                              rintro w' ⟨s0, s1, s2, s3, s4⟩
                              go_simp
                              with_reducible rfl
                             rotate_left
                             ·
                              simp only [Act.put, sa_, s0_, s1_, i64_w, i32_w]
                              rfl
                             refine pA_ 8 112 ?_ (b_ 27 511) (any_of HT_.out (by kernel_rfl)) rfl rfl (fun _ _ _ h => h) (by rfl) ?_ ?_ ?_ ?_
                             rotate_left
                             ·
                              intro w'
                              go_simp
                              with_reducible rfl
                             rotate_left
                             ·
                              simp only [Act.put, sa_, s0_, s1_, i64_w, i32_w]
                              rfl
                             refine pA_ 9 113 ?_ (b_ 27 1023) (any_of HT_.out (by kernel_rfl)) rfl rfl (fun _ _ _ h => h) (by rfl) ?_ ?_ ?_ ?_
                             rotate_left
                             ·
                              intro w'
                              go_simp
                              with_reducible rfl
                             rotate_left
                             ·
                              simp only [Act.put, sa_, s0_, s1_, i64_w, i32_w]
                              rfl
                             refine pB_ 10 114 ?_ (b_ 27 2047) (any_of HT_.out (by kernel_rfl)) rfl rfl (fun _ _ _ h => h) (by rfl) ?_ ?_
                             rotate_left
                             ·
                              simp only [Act.put, sa_, s0_, s1_, i64_w, i32_w]
                              rfl
                             refine pB_ 11 115 ?_ (b_ 27 4095) (any_of HT_.out (by kernel_rfl)) rfl rfl (fun _ _ _ h => h) (by rfl) ?_ ?_
                             rotate_left
                             ·
                              simp only [Act.put, sa_, s0_, s1_, i64_w, i32_w]
                              rfl
                             refine pB_ 12 116 ?_ (b_ 27 8191) (any_of HT_.out (by kernel_rfl)) rfl rfl (fun _ _ _ h => h) (by rfl) ?_ ?_
                             rotate_left
                             ·
                              simp only [Act.put, sa_, s0_, s1_, i64_w, i32_w]
                              rfl
                             refine pB_ 13 117 ?_ (b_ 27 16383) (any_of HT_.out (by kernel_rfl)) rfl rfl (fun _ _ _ h => h) (by rfl) ?_ ?_
                             rotate_left
                             ·
                              simp only [Act.put, sa_, s0_, s1_, i64_w, i32_w]
                              rfl
                             refine pB_ 14 118 ?_ (b_ 27 32767) (any_of HT_.out (by kernel_rfl)) rfl rfl (fun _ _ _ h => h) (by rfl) ?_ ?_
                             rotate_left
                             ·
                              simp only [Act.put, sa_, s0_, s1_, i64_w, i32_w]
                              rfl
                             refine pB_ 15 119 ?_ (b_ 27 65535) (any_of HT_.out (by kernel_rfl)) rfl rfl (fun _ _ _ h => h) (by rfl) ?_ ?_
                             rotate_left
                             ·
                              simp only [Act.put, sa_, s0_, s1_, i64_w, i32_w]
                              rfl
                             refine pB_ 16 120 ?_ (b_ 27 131071) (any_of HT_.out (by kernel_rfl)) rfl rfl (fun _ _ _ h => h) (by rfl) ?_ ?_
                             rotate_left
                             ·
                              simp only [Act.put, sa_, s0_, s1_, i64_w, i32_w]
                              rfl
                             refine pB_ 17 121 ?_ (b_ 27 262143) (any_of HT_.out (by kernel_rfl)) rfl rfl (fun _ _ _ h => h) (by rfl) ?_ ?_
                             rotate_left
                             ·
                              simp only [Act.put, sa_, s0_, s1_, i64_w, i32_w]
                              rfl
                             refine pB_ 18 122 ?_ (b_ 27 524287) (any_of HT_.out (by kernel_rfl)) rfl rfl (fun _ _ _ h => h) (by rfl) ?_ ?_
                             rotate_left
                             ·
                              simp only [Act.put, sa_, s0_, s1_, i64_w, i32_w]
                              rfl
                             refine pB_ 19 123 ?_ (b_ 27 1048575) (any_of HT_.out (by kernel_rfl)) rfl rfl (fun _ _ _ h => h) (by rfl) ?_ ?_
                             rotate_left
                             ·
                              simp only [Act.put, sa_, s0_, s1_, i64_w, i32_w]
                              rfl
                             refine pB_ 20 124 ?_ (b_ 27 2097151) (any_of HT_.out (by kernel_rfl)) rfl rfl (fun _ _ _ h => h) (by rfl) ?_ ?_
                             rotate_left
                             ·
                              simp only [Act.put, sa_, s0_, s1_, i64_w, i32_w]
                              rfl
                             refine pB_ 21 125 ?_ (b_ 27 4194303) (any_of HT_.out (by kernel_rfl)) rfl rfl (fun _ _ _ h => h) (by rfl) ?_ ?_
                             rotate_left
                             ·
                              simp only [Act.put, sa_, s0_, s1_, i64_w, i32_w]
                              rfl
                             refine pB_ 22 126 ?_ (b_ 27 8388607) (any_of HT_.out (by kernel_rfl)) rfl rfl (fun _ _ _ h => h) (by rfl) ?_ ?_
                             rotate_left
                             ·
                              simp only [Act.put, sa_, s0_, s1_, i64_w, i32_w]
                              rfl
                             refine pB_ 23 127 ?_ (b_ 27 16777215) (any_of HT_.out (by kernel_rfl)) rfl rfl (fun _ _ _ h => h) (by rfl) ?_ ?_
                             rotate_left
                             ·
                              simp only [Act.put, sa_, s0_, s1_, i64_w, i32_w]
                              rfl
                             refine pB_ 24 128 ?_ (b_ 27 33554431) (any_of HT_.out (by kernel_rfl)) rfl rfl (fun _ _ _ h => h) (by rfl) ?_ ?_
                             rotate_left
                             ·
                              simp only [Act.put, sa_, s0_, s1_, i64_w, i32_w]
                              rfl
                             refine pB_ 25 129 ?_ (b_ 27 67108863) (any_of HT_.out (by kernel_rfl)) rfl rfl (fun _ _ _ h => h) (by rfl) ?_ ?_
                             rotate_left
                             ·
                              simp only [Act.put, sa_, s0_, s1_, i64_w, i32_w]
                              rfl
                             refine pA_ 26 130 ?_ (b_ 27 134217727) (any_of HT_.out (by kernel_rfl)) rfl rfl (fun _ _ _ h => h) (by rfl) ?_ ?_ ?_ ?_
                             rotate_left
                             ·
                              intro w'
                              go_simp
                              with_reducible rfl
                             rotate_left
                             ·
                              simp only [Act.put, sa_, s0_, s1_, i64_w, i32_w]
                              rfl
                             refine done_ (done_of HT_.out (by kernel_rfl)) ?_
                             try go_wp2
                             go_ret
                             exact ⟨by first | rfl | (simp [errW_none, errW_some] <;> rfl) | (simp [*, errW_none, errW_some] <;> rfl) | exact ret_ie _ | (simp [*, errW_none, errW_some, bne]; done), by repeat (first | (with_reducible first | exact HB.out | apply below_alloc | apply pw_below_drewN | apply below_drew1 | refine below_set ?_ GE293.out | refine below_set ?_ GE313.out) | exact HB.out)⟩
                           ·
                            rw [if_neg c59] at H
                            exact absurd H (by simp)
                          ·
                           rw [if_neg c58] at H
                           exact absurd H (by simp)
                         ·
                          rw [if_neg c57] at H
                          exact absurd H (by simp)
                        ·
                         rw [if_neg c56] at H
                         have c56b0 : decide (x11_6 < (((rd_T40 l0_0 (rd t296 x9_4)).f0).length : Int)) = false := decide_eq_false c56
                         clear c56
                         by_cases c82 : 0 ≤ x9_4
                         ·
                          rw [if_pos c82] at H
                          have c82b0 : decide (0 ≤ x9_4) = true := decide_eq_true c82
                          clear c82
                          by_cases c83 : x9_4 < (t296.length : Int)
                          ·
                           rw [if_pos c83] at H
                           have c83b0 : decide (x9_4 < (t296.length : Int)) = true := decide_eq_true c83
                           clear c83
                           by_cases c84 : 0 ≤ (rd t296 x9_4)
                           ·
                            rw [if_pos c84] at H
                            have c84b0 : decide (0 ≤ (rd t296 x9_4)) = true := decide_eq_true c84
                            clear c84
                            by_cases c85 : (rd t296 x9_4) < (x8_4.length : Int)
                            ·
                             rw [if_pos c85] at H
                             have c85b0 : decide ((rd t296 x9_4) < (x8_4.length : Int)) = true := decide_eq_true c85
                             clear c85
                             obtain ⟨y321, hy321⟩ : ∃ y_ : List Bool, y_ = (x8_4.set ((rd t296 x9_4) : Int).toNat true) := ⟨_, rfl⟩
                             replace H : (if (rd t296 x9_4) < (t300.length : Int) then (if (rd t300 (rd t296 x9_4)) < 1 then (some false) else (if (rd t300 (rd t296 x9_4)) > (t296.length : Int) then (some false) else (millhandlaw23_DagOrder.l0 k6 t296 t300 y321 (wrap64 (x9_4 + 1)) l0_0))) else (none)) = some r := by first | (rw [hy321]; with_reducible exact H) | (have H2_ := (Option.bind_some _ _).symm.trans H; rw [hy321]; with_reducible exact H2_) | (have H2_ := (Option.bind_some _ _).symm.trans H; with_reducible exact H2_) | with_reducible exact H | (rw [hy321]; exact H) | exact H
                             have Ny321 := Aside0.mk hy321
                             clear hy321
                             by_cases c87 : (rd t296 x9_4) < (t300.length : Int)
                             ·
                              rw [if_pos c87] at H
                              have c87b0 : decide ((rd t296 x9_4) < (t300.length : Int)) = true := decide_eq_true c87
                              clear c87
                              by_cases c88 : (rd t300 (rd t296 x9_4)) < 1
                              ·
                               rw [if_pos c88] at H
                               have c88b0 : decide ((rd t300 (rd t296 x9_4)) < 1) = true := decide_eq_true c88
                               clear c88
                               obtain rfl := Option.some.inj H
                               have hnb89 := NB313_293.out
                               have hnc89 := NB293_313.out
                               have hcz90_0 : wr.cell? ⟨gb313, 0, none⟩ = some (.slice A312_0 ((rd_T40 l0_0 (rd t296 x9_4)).f0).length c312_0) := (blk_cell BK313.out 0).trans rfl
                               have hcz90_1 : wr.cell? ⟨gb313, 1, none⟩ = some (.int .i64 ((rd_T40 l0_0 (rd t296 x9_4)).f1)) := (blk_cell BK313.out 1).trans rfl
                               have hcz90_2 : wr.cell? ⟨gb313, 2, none⟩ = some (.int .i64 ((rd_T40 l0_0 (rd t296 x9_4)).f2)) := (blk_cell BK313.out 2).trans rfl
                               have hfz90_0 := blk_frozen BK313.out 0
                               have hfz90_1 := blk_frozen BK313.out 1
                               have hfz90_2 := blk_frozen BK313.out 2
                               have p320 : 0 ≤ (x9_4 : Int) := of_decide_eq_true (by first | (with_reducible assumption) | assumption)
                               have q320 : x9_4 < (t296.length : Int) := of_decide_eq_true (by first | (with_reducible assumption) | assumption)
                               obtain ⟨ad320, e320, hx320_0⟩ := Kd.at_int (Kd.R_reads' HO_4.out).2.2 x9_4 p320 q320
                               obtain rfl : ad311 = ad320 := (by injection e320)
                               replace p320 := eq_true p320
                               replace q320 := eq_true q320
                               have p86 : 0 ≤ ((rd t296 x9_4) : Int) := of_decide_eq_true (by first | (with_reducible assumption) | assumption)
                               have q86 : ((rd t296 x9_4) : Int) < ((x8_4.length : Int) : Int) := of_decide_eq_true (by first | (with_reducible assumption) | assumption)
                               obtain ⟨go86, co86, eo86, gb86, gl86, cl86, HG86⟩ := Kd.R_form HO_8.out (by omega)
                               (first | cases eo86 | (injection eo86 with ea_ en_ ec_; (first | subst ea_ | (injection ea_ with ea_; subst ea_)); subst ec_; clear en_))
                               have GB86 := Aside0.mk gb86
                               have GG86 := Aside0.mk HG86
                               clear gb86 gl86 HG86
                               obtain ⟨hx86_0, hf86_0⟩ := Kd.R_celln false HO_8.out ((rd t296 x9_4) : Int) p86 q86
                               replace p86 := eq_true p86
                               replace q86 := eq_true q86
                               have HP91 := Kd.R_putg HO_8.out ((rd t296 x9_4) : Int) true
                               go_wp2_with (first | ((with_reducible refine gate_store (t := 4) (p := 136) rfl ?_); refine store_event (t := 4) (p := 136) (v := ?vo_w92) (w1 := (wr.setCell ⟨go86, ((rd t296 x9_4) : Int).toNat, none⟩ (.bool true))) ?hg ?ho ?hn ?hr ?_; (case ho => rfl); (case hg => rfl); (case hn => rfl); (case hr => first | (go_simp; done) | (go_simp; rfl)); intro w92 hw; have hg : wr.grownBy w92 (some go86) := (by rw [hw]; exact HP91.2); have hp_ : Kd.R Kd.bool 4 w92 w.heap.size (fun _ => True) (.slice (some ⟨go86, 0, none⟩) x8_4.length co86) y321 := (by rw [hw, Ny321.out]; exact HP91.1); clear HP91; have n0_ := Aside0.mk (Kd.R_over' (v := (.slice (some ⟨go86, 0, none⟩) x8_4.length co86)) (by (with_reducible repeat (first | apply Kd.R_alloc | apply Kd.R_drewN | apply Kd.R_drew)); exact HO_4.out) (Kd.R_typed HO_8.out) (by decide) hg); have n1_ := Aside0.mk (Kd.R_over' (v := (.slice (some ⟨go86, 0, none⟩) x8_4.length co86)) (by (with_reducible repeat (first | apply Kd.R_alloc | apply Kd.R_drewN | apply Kd.R_drew)); exact HO_6.out) (Kd.R_typed HO_8.out) (by decide) hg); have n2_ := Aside0.mk (hp_); have n3_ := Aside0.mk (blk_grown (g := gb293) (o := .cells #[.slice (some ad312) l0_0.length c0_0] 25 (0, 0)) (by (with_reducible repeat (first | refine blk_drewN ?_ _ | refine blk_drew ?_ | refine blk_alloc ?_ _)); exact BK293.out) hg (Kd.R_ne HO_8.out BK293.out (by decide))); have n4_ := Aside0.mk (blk_grown (g := gb313) (o := .cells #[.slice A312_0 ((rd_T40 l0_0 (rd t296 x9_4)).f0).length c312_0, .int .i64 ((rd_T40 l0_0 (rd t296 x9_4)).f1), .int .i64 ((rd_T40 l0_0 (rd t296 x9_4)).f2)] 40 (0, 0)) (by (with_reducible repeat (first | refine blk_drewN ?_ _ | refine blk_drew ?_ | refine blk_alloc ?_ _)); exact BK313.out) hg (Kd.R_ne HO_8.out BK313.out (by decide))); have n5_ := Aside0.mk ((by rw [hw]; exact below_set (HB.out) GB86.out : Below w.heap.size w w92)); clear HO_4; clear HO_6; clear HO_8; clear BK293; clear BK313; clear HB; have HO_4 := n0_; have HO_6 := n1_; have HO_8 := n2_; have BK293 := n3_; have BK313 := n4_; have HB := n5_; clear n0_ n1_ n2_ n3_ n4_ n5_; clear hg hw hp_; have p322 : 0 ≤ (x9_4 : Int) := of_decide_eq_true (by first | (with_reducible assumption) | assumption); have q322 : x9_4 < (t296.length : Int) := of_decide_eq_true (by first | (with_reducible assumption) | assumption); obtain ⟨ad322, e322, hx322_0⟩ := Kd.at_int (Kd.R_reads' HO_4.out).2.2 x9_4 p322 q322; obtain rfl : ad311 = ad322 := (by injection e322); replace p322 := eq_true p322; replace q322 := eq_true q322; obtain ⟨Ao93, co93, eo93⟩ := Kd.R_slice HO_6.out; subst eo93; have p323 : 0 ≤ ((rd t296 x9_4) : Int) := of_decide_eq_true (by first | (with_reducible assumption) | assumption); have q323 : (rd t296 x9_4) < (t300.length : Int) := of_decide_eq_true (by first | (with_reducible assumption) | assumption); obtain ⟨ad323, e323, hx323_0⟩ := Kd.at_int (Kd.R_reads' HO_6.out).2.2 (rd t296 x9_4) p323 q323; cases e323; replace p323 := eq_true p323; replace q323 := eq_true q323))
                               go_ret
                               exact ⟨by first | rfl | (simp [errW_none, errW_some] <;> rfl) | (simp [*, errW_none, errW_some] <;> rfl) | exact ret_ie _ | (simp [*, errW_none, errW_some, bne]; done), by repeat (first | (with_reducible first | exact HB.out | apply below_alloc | apply pw_below_drewN | apply below_drew1 | refine below_set ?_ GE293.out | refine below_set ?_ GE313.out) | exact HB.out)⟩
                              ·
                               rw [if_neg c88] at H
                               have c88b0 : decide ((rd t300 (rd t296 x9_4)) < 1) = false := decide_eq_false c88
                               clear c88
                               by_cases c94 : (rd t300 (rd t296 x9_4)) > (t296.length : Int)
                               ·
                                rw [if_pos c94] at H
                                have c94b0 : decide ((t296.length : Int) < (rd t300 (rd t296 x9_4))) = true := decide_eq_true c94
                                clear c94
                                obtain rfl := Option.some.inj H
                                have hnb95 := NB313_293.out
                                have hnc95 := NB293_313.out
                                have hcz96_0 : wr.cell? ⟨gb313, 0, none⟩ = some (.slice A312_0 ((rd_T40 l0_0 (rd t296 x9_4)).f0).length c312_0) := (blk_cell BK313.out 0).trans rfl
                                have hcz96_1 : wr.cell? ⟨gb313, 1, none⟩ = some (.int .i64 ((rd_T40 l0_0 (rd t296 x9_4)).f1)) := (blk_cell BK313.out 1).trans rfl
                                have hcz96_2 : wr.cell? ⟨gb313, 2, none⟩ = some (.int .i64 ((rd_T40 l0_0 (rd t296 x9_4)).f2)) := (blk_cell BK313.out 2).trans rfl
                                have hfz96_0 := blk_frozen BK313.out 0
                                have hfz96_1 := blk_frozen BK313.out 1
                                have hfz96_2 := blk_frozen BK313.out 2
                                have p320 : 0 ≤ (x9_4 : Int) := of_decide_eq_true (by first | (with_reducible assumption) | assumption)
                                have q320 : x9_4 < (t296.length : Int) := of_decide_eq_true (by first | (with_reducible assumption) | assumption)
                                obtain ⟨ad320, e320, hx320_0⟩ := Kd.at_int (Kd.R_reads' HO_4.out).2.2 x9_4 p320 q320
                                obtain rfl : ad311 = ad320 := (by injection e320)
                                replace p320 := eq_true p320
                                replace q320 := eq_true q320
                                have p86 : 0 ≤ ((rd t296 x9_4) : Int) := of_decide_eq_true (by first | (with_reducible assumption) | assumption)
                                have q86 : ((rd t296 x9_4) : Int) < ((x8_4.length : Int) : Int) := of_decide_eq_true (by first | (with_reducible assumption) | assumption)
                                obtain ⟨go86, co86, eo86, gb86, gl86, cl86, HG86⟩ := Kd.R_form HO_8.out (by omega)
                                (first | cases eo86 | (injection eo86 with ea_ en_ ec_; (first | subst ea_ | (injection ea_ with ea_; subst ea_)); subst ec_; clear en_))
                                have GB86 := Aside0.mk gb86
                                have GG86 := Aside0.mk HG86
                                clear gb86 gl86 HG86
                                obtain ⟨hx86_0, hf86_0⟩ := Kd.R_celln false HO_8.out ((rd t296 x9_4) : Int) p86 q86
                                replace p86 := eq_true p86
                                replace q86 := eq_true q86
                                have HP97 := Kd.R_putg HO_8.out ((rd t296 x9_4) : Int) true
                                go_wp2_with (first | ((with_reducible refine gate_store (t := 4) (p := 136) rfl ?_); refine store_event (t := 4) (p := 136) (v := ?vo_w98) (w1 := (wr.setCell ⟨go86, ((rd t296 x9_4) : Int).toNat, none⟩ (.bool true))) ?hg ?ho ?hn ?hr ?_; (case ho => rfl); (case hg => rfl); (case hn => rfl); (case hr => first | (go_simp; done) | (go_simp; rfl)); intro w98 hw; have hg : wr.grownBy w98 (some go86) := (by rw [hw]; exact HP97.2); have hp_ : Kd.R Kd.bool 4 w98 w.heap.size (fun _ => True) (.slice (some ⟨go86, 0, none⟩) x8_4.length co86) y321 := (by rw [hw, Ny321.out]; exact HP97.1); clear HP97; have n0_ := Aside0.mk (Kd.R_over' (v := (.slice (some ⟨go86, 0, none⟩) x8_4.length co86)) (by (with_reducible repeat (first | apply Kd.R_alloc | apply Kd.R_drewN | apply Kd.R_drew)); exact HO_4.out) (Kd.R_typed HO_8.out) (by decide) hg); have n1_ := Aside0.mk (Kd.R_over' (v := (.slice (some ⟨go86, 0, none⟩) x8_4.length co86)) (by (with_reducible repeat (first | apply Kd.R_alloc | apply Kd.R_drewN | apply Kd.R_drew)); exact HO_6.out) (Kd.R_typed HO_8.out) (by decide) hg); have n2_ := Aside0.mk (hp_); have n3_ := Aside0.mk (blk_grown (g := gb293) (o := .cells #[.slice (some ad312) l0_0.length c0_0] 25 (0, 0)) (by (with_reducible repeat (first | refine blk_drewN ?_ _ | refine blk_drew ?_ | refine blk_alloc ?_ _)); exact BK293.out) hg (Kd.R_ne HO_8.out BK293.out (by decide))); have n4_ := Aside0.mk (blk_grown (g := gb313) (o := .cells #[.slice A312_0 ((rd_T40 l0_0 (rd t296 x9_4)).f0).length c312_0, .int .i64 ((rd_T40 l0_0 (rd t296 x9_4)).f1), .int .i64 ((rd_T40 l0_0 (rd t296 x9_4)).f2)] 40 (0, 0)) (by (with_reducible repeat (first | refine blk_drewN ?_ _ | refine blk_drew ?_ | refine blk_alloc ?_ _)); exact BK313.out) hg (Kd.R_ne HO_8.out BK313.out (by decide))); have n5_ := Aside0.mk ((by rw [hw]; exact below_set (HB.out) GB86.out : Below w.heap.size w w98)); clear HO_4; clear HO_6; clear HO_8; clear BK293; clear BK313; clear HB; have HO_4 := n0_; have HO_6 := n1_; have HO_8 := n2_; have BK293 := n3_; have BK313 := n4_; have HB := n5_; clear n0_ n1_ n2_ n3_ n4_ n5_; clear hg hw hp_; have p322 : 0 ≤ (x9_4 : Int) := of_decide_eq_true (by first | (with_reducible assumption) | assumption); have q322 : x9_4 < (t296.length : Int) := of_decide_eq_true (by first | (with_reducible assumption) | assumption); obtain ⟨ad322, e322, hx322_0⟩ := Kd.at_int (Kd.R_reads' HO_4.out).2.2 x9_4 p322 q322; obtain rfl : ad311 = ad322 := (by injection e322); replace p322 := eq_true p322; replace q322 := eq_true q322; obtain ⟨Ao99, co99, eo99⟩ := Kd.R_slice HO_6.out; subst eo99; have p323 : 0 ≤ ((rd t296 x9_4) : Int) := of_decide_eq_true (by first | (with_reducible assumption) | assumption); have q323 : (rd t296 x9_4) < (t300.length : Int) := of_decide_eq_true (by first | (with_reducible assumption) | assumption); obtain ⟨ad323, e323, hx323_0⟩ := Kd.at_int (Kd.R_reads' HO_6.out).2.2 (rd t296 x9_4) p323 q323; cases e323; replace p323 := eq_true p323; replace q323 := eq_true q323; have p324 : 0 ≤ (x9_4 : Int) := of_decide_eq_true (by first | (with_reducible assumption) | assumption); have q324 : x9_4 < (t296.length : Int) := of_decide_eq_true (by first | (with_reducible assumption) | assumption); obtain ⟨ad324, e324, hx324_0⟩ := Kd.at_int (Kd.R_reads' HO_4.out).2.2 x9_4 p324 q324; obtain rfl : ad311 = ad324 := (by injection e324); replace p324 := eq_true p324; replace q324 := eq_true q324; have p325 : 0 ≤ ((rd t296 x9_4) : Int) := of_decide_eq_true (by first | (with_reducible assumption) | assumption); have q325 : (rd t296 x9_4) < (t300.length : Int) := of_decide_eq_true (by first | (with_reducible assumption) | assumption); obtain ⟨ad325, e325, hx325_0⟩ := Kd.at_int (Kd.R_reads' HO_6.out).2.2 (rd t296 x9_4) p325 q325; obtain rfl : ad323 = ad325 := (by injection e325); replace p325 := eq_true p325; replace q325 := eq_true q325))
                                go_ret
                                exact ⟨by first | rfl | (simp [errW_none, errW_some] <;> rfl) | (simp [*, errW_none, errW_some] <;> rfl) | exact ret_ie _ | (simp [*, errW_none, errW_some, bne]; done), by repeat (first | (with_reducible first | exact HB.out | apply below_alloc | apply pw_below_drewN | apply below_drew1 | refine below_set ?_ GE293.out | refine below_set ?_ GE313.out) | exact HB.out)⟩
                               ·
                                rw [if_neg c94] at H
                                have c94b0 : decide ((t296.length : Int) < (rd t300 (rd t296 x9_4))) = false := decide_eq_false c94
                                clear c94
                                have H' := Aside0.mk H
                                clear H
                                have hnb100 := NB313_293.out
                                have hnc100 := NB293_313.out
                                have hcz101_0 : wr.cell? ⟨gb313, 0, none⟩ = some (.slice A312_0 ((rd_T40 l0_0 (rd t296 x9_4)).f0).length c312_0) := (blk_cell BK313.out 0).trans rfl
                                have hcz101_1 : wr.cell? ⟨gb313, 1, none⟩ = some (.int .i64 ((rd_T40 l0_0 (rd t296 x9_4)).f1)) := (blk_cell BK313.out 1).trans rfl
                                have hcz101_2 : wr.cell? ⟨gb313, 2, none⟩ = some (.int .i64 ((rd_T40 l0_0 (rd t296 x9_4)).f2)) := (blk_cell BK313.out 2).trans rfl
                                have hfz101_0 := blk_frozen BK313.out 0
                                have hfz101_1 := blk_frozen BK313.out 1
                                have hfz101_2 := blk_frozen BK313.out 2
                                have p320 : 0 ≤ (x9_4 : Int) := of_decide_eq_true (by first | (with_reducible assumption) | assumption)
                                have q320 : x9_4 < (t296.length : Int) := of_decide_eq_true (by first | (with_reducible assumption) | assumption)
                                obtain ⟨ad320, e320, hx320_0⟩ := Kd.at_int (Kd.R_reads' HO_4.out).2.2 x9_4 p320 q320
                                obtain rfl : ad311 = ad320 := (by injection e320)
                                replace p320 := eq_true p320
                                replace q320 := eq_true q320
                                have p86 : 0 ≤ ((rd t296 x9_4) : Int) := of_decide_eq_true (by first | (with_reducible assumption) | assumption)
                                have q86 : ((rd t296 x9_4) : Int) < ((x8_4.length : Int) : Int) := of_decide_eq_true (by first | (with_reducible assumption) | assumption)
                                obtain ⟨go86, co86, eo86, gb86, gl86, cl86, HG86⟩ := Kd.R_form HO_8.out (by omega)
                                (first | cases eo86 | (injection eo86 with ea_ en_ ec_; (first | subst ea_ | (injection ea_ with ea_; subst ea_)); subst ec_; clear en_))
                                have GB86 := Aside0.mk gb86
                                have GG86 := Aside0.mk HG86
                                clear gb86 gl86 HG86
                                obtain ⟨hx86_0, hf86_0⟩ := Kd.R_celln false HO_8.out ((rd t296 x9_4) : Int) p86 q86
                                replace p86 := eq_true p86
                                replace q86 := eq_true q86
                                have HP102 := Kd.R_putg HO_8.out ((rd t296 x9_4) : Int) true
                                go_wp2_with (first | ((with_reducible refine gate_store (t := 4) (p := 136) rfl ?_); refine store_event (t := 4) (p := 136) (v := ?vo_w103) (w1 := (wr.setCell ⟨go86, ((rd t296 x9_4) : Int).toNat, none⟩ (.bool true))) ?hg ?ho ?hn ?hr ?_; (case ho => rfl); (case hg => rfl); (case hn => rfl); (case hr => first | (go_simp; done) | (go_simp; rfl)); intro w103 hw; have hg : wr.grownBy w103 (some go86) := (by rw [hw]; exact HP102.2); have hp_ : Kd.R Kd.bool 4 w103 w.heap.size (fun _ => True) (.slice (some ⟨go86, 0, none⟩) x8_4.length co86) y321 := (by rw [hw, Ny321.out]; exact HP102.1); clear HP102; have n0_ := Aside0.mk (Kd.R_over' (v := (.slice (some ⟨go86, 0, none⟩) x8_4.length co86)) (by (with_reducible repeat (first | apply Kd.R_alloc | apply Kd.R_drewN | apply Kd.R_drew)); exact HO_4.out) (Kd.R_typed HO_8.out) (by decide) hg); have n1_ := Aside0.mk (Kd.R_over' (v := (.slice (some ⟨go86, 0, none⟩) x8_4.length co86)) (by (with_reducible repeat (first | apply Kd.R_alloc | apply Kd.R_drewN | apply Kd.R_drew)); exact HO_6.out) (Kd.R_typed HO_8.out) (by decide) hg); have n2_ := Aside0.mk (hp_); have n3_ := Aside0.mk (blk_grown (g := gb293) (o := .cells #[.slice (some ad312) l0_0.length c0_0] 25 (0, 0)) (by (with_reducible repeat (first | refine blk_drewN ?_ _ | refine blk_drew ?_ | refine blk_alloc ?_ _)); exact BK293.out) hg (Kd.R_ne HO_8.out BK293.out (by decide))); have n4_ := Aside0.mk (blk_grown (g := gb313) (o := .cells #[.slice A312_0 ((rd_T40 l0_0 (rd t296 x9_4)).f0).length c312_0, .int .i64 ((rd_T40 l0_0 (rd t296 x9_4)).f1), .int .i64 ((rd_T40 l0_0 (rd t296 x9_4)).f2)] 40 (0, 0)) (by (with_reducible repeat (first | refine blk_drewN ?_ _ | refine blk_drew ?_ | refine blk_alloc ?_ _)); exact BK313.out) hg (Kd.R_ne HO_8.out BK313.out (by decide))); have n5_ := Aside0.mk ((by rw [hw]; exact below_set (HB.out) GB86.out : Below w.heap.size w w103)); clear HO_4; clear HO_6; clear HO_8; clear BK293; clear BK313; clear HB; have HO_4 := n0_; have HO_6 := n1_; have HO_8 := n2_; have BK293 := n3_; have BK313 := n4_; have HB := n5_; clear n0_ n1_ n2_ n3_ n4_ n5_; clear hg hw hp_; have p322 : 0 ≤ (x9_4 : Int) := of_decide_eq_true (by first | (with_reducible assumption) | assumption); have q322 : x9_4 < (t296.length : Int) := of_decide_eq_true (by first | (with_reducible assumption) | assumption); obtain ⟨ad322, e322, hx322_0⟩ := Kd.at_int (Kd.R_reads' HO_4.out).2.2 x9_4 p322 q322; obtain rfl : ad311 = ad322 := (by injection e322); replace p322 := eq_true p322; replace q322 := eq_true q322; obtain ⟨Ao104, co104, eo104⟩ := Kd.R_slice HO_6.out; subst eo104; have p323 : 0 ≤ ((rd t296 x9_4) : Int) := of_decide_eq_true (by first | (with_reducible assumption) | assumption); have q323 : (rd t296 x9_4) < (t300.length : Int) := of_decide_eq_true (by first | (with_reducible assumption) | assumption); obtain ⟨ad323, e323, hx323_0⟩ := Kd.at_int (Kd.R_reads' HO_6.out).2.2 (rd t296 x9_4) p323 q323; cases e323; replace p323 := eq_true p323; replace q323 := eq_true q323; have p324 : 0 ≤ (x9_4 : Int) := of_decide_eq_true (by first | (with_reducible assumption) | assumption); have q324 : x9_4 < (t296.length : Int) := of_decide_eq_true (by first | (with_reducible assumption) | assumption); obtain ⟨ad324, e324, hx324_0⟩ := Kd.at_int (Kd.R_reads' HO_4.out).2.2 x9_4 p324 q324; obtain rfl : ad311 = ad324 := (by injection e324); replace p324 := eq_true p324; replace q324 := eq_true q324; have p325 : 0 ≤ ((rd t296 x9_4) : Int) := of_decide_eq_true (by first | (with_reducible assumption) | assumption); have q325 : (rd t296 x9_4) < (t300.length : Int) := of_decide_eq_true (by first | (with_reducible assumption) | assumption); obtain ⟨ad325, e325, hx325_0⟩ := Kd.at_int (Kd.R_reads' HO_6.out).2.2 (rd t296 x9_4) p325 q325; obtain rfl : ad323 = ad325 := (by injection e325); replace p325 := eq_true p325; replace q325 := eq_true q325))
                                go_roundg k6
                                case measure => have := HJ2.out; have := HJ14.out; have := HJ23.out; have := HK4.out; have := HJ37.out; have := HK6.out; omega
                                case rel => exact ⟨(y321), (wrap64 (x9_4 + 1)), (by first | rfl | (simp; done) | (simp [*]; done)), H', ⟨by have := HJ2.out; have := HJ14.out; have := HJ23.out; have := HK4.out; have := HJ37.out; have := HK6.out; omega⟩, ⟨by (with_reducible repeat (first | apply Kd.R_alloc | apply Kd.R_drewN | apply Kd.R_drew)); exact HO_4.out⟩, ⟨by (with_reducible repeat (first | apply Kd.R_alloc | apply Kd.R_drewN | apply Kd.R_drew)); exact HO_6.out⟩, ⟨by (with_reducible repeat (first | apply Kd.R_alloc | apply Kd.R_drewN | apply Kd.R_drew)); exact HO_8.out⟩, ⟨by (with_reducible repeat (first | refine blk_drewN ?_ _ | refine blk_drew ?_ | refine blk_alloc ?_ _)); exact BK293.out⟩, ⟨by repeat (first | (with_reducible first | exact HB.out | apply below_alloc | apply pw_below_drewN | apply below_drew1 | refine below_set ?_ GE293.out | refine below_set ?_ GE313.out) | exact HB.out)⟩⟩
                             ·
                              rw [if_neg c87] at H
                              exact absurd H (by simp)
                            ·
                             rw [if_neg c85] at H
                             exact absurd H (by simp)
                           ·
                            rw [if_neg c84] at H
                            exact absurd H (by simp)
                          ·
                           rw [if_neg c83] at H
                           exact absurd H (by simp)
                         ·
                          rw [if_neg c82] at H
                          exact absurd H (by simp)
                     ·
                      rw [if_neg c50] at H
                      exact absurd H (by simp)
                    ·
                     rw [if_neg c49] at H
                     exact absurd H (by simp)
                   ·
                    rw [if_neg c48] at H
                    exact absurd H (by simp)
                  ·
                   rw [if_neg c47] at H
                   exact absurd H (by simp)
              ·
               rw [if_neg c37] at H
               have c37b0 : decide (x9_4 < (t296.length : Int)) = false := decide_eq_false c37
               clear c37
               obtain rfl := Option.some.inj H
               go_wp2
               go_ret
               exact ⟨by first | rfl | (simp [errW_none, errW_some] <;> rfl) | (simp [*, errW_none, errW_some] <;> rfl) | exact ret_ie _ | (simp [*, errW_none, errW_some, bne]; done), by repeat (first | (with_reducible first | exact HB.out | apply below_alloc | apply pw_below_drewN | apply below_drew1 | refine below_set ?_ GE293.out) | exact HB.out)⟩
           ·
            rw [if_neg c33] at H
            exact absurd H (by simp)
          ·
           rw [if_neg c32] at H
           exact absurd H (by simp)

end Go.Proofs.Ytoplhlacdjlidaa.R

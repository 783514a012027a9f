/- Contracts of Go functions and what they come to, over the translation of this seat: made by a program of this session (print2.py). -/
import Derived.Test.YtoplhlacdjlidaaRDX
import Derived.Test.YtoplhlacdjlidaaRx0
import Derived.Test.YtoplhlacdjlidaaRx5
import Derived.Test.YtoplhlacdjlidaaRx6
import Derived.Test.YtoplhlacdjlidaaRx7
import Derived.Test.YtoplhlacdjlidaaRx8
import Derived.Test.YtoplhlacdjlidaaRx9
import Derived.Test.YtoplhlacdjlidaaRx12
import Derived.Test.YtoplhlacdjlidaaRx13
import Derived.Test.YtoplhlacdjlidaaRx14
import Derived.Test.YtoplhlacdjlidaaRx17
import Derived.Test.YtoplhlacdjlidaaRx18
import Derived.Test.YtoplhlacdjlidaaRx19
import Derived.Test.YtoplhlacdjlidaaRx20
import Derived.Test.YtoplhlacdjlidaaRx21
namespace Go.Proofs.Ytoplhlacdjlidaa.R
open Go.RowKit Go.Proofs.Ytoplhlacdjlidaa.Co Go.Proofs.Ytoplhlacdjlidaa.Ret Go.Proofs.Ytoplhlacdjlidaa.Plain Go.Proofs.YtoplhlacdjlidaaW.PrintWords Go.Proofs.YtoplhlacdjlidaaW.PrintLast Go.Proofs.YtoplhlacdjlidaaW.PrintMore
attribute [local go_sem] max2_int min2_int max_two min_two max_three min_three max_four min_four   -- for this text's walks alone
set_option linter.unusedVariables false
set_option linter.unusedSimpArgs false

/-! ### millhandlaw23_DagTells: function 6 -/
mutual
def millhandlaw23_DagTells.j0 : Nat → List Bool → Bool → List (S40) → List (S40) → Option (Bool)
 | 0, _, _, _, _ => none
 | k + 1, x2, x42, x442000, x443000 => if x42 = true then (some true) else ((millhandref23_Twin.f k x442000).bind fun t445 => ((dag_Order.f k t445).bind fun bt449 => ((millhandref23_Order.f k x442000).bind fun bt453 => ((dag_Roots.f k t445).bind fun bt457 => ((millhandref23_Roots.f k x442000).bind fun bt461 => ((dag_Ready.f k t445 x2).bind fun bt465 => ((millhandref23_Ready.f k x442000 x2).bind fun bt469 => ((dag_Depth.f k t445).bind fun bt473 => ((millhandref23_Depth.f k x442000).bind fun bt477 => ((dag_Write.f k t445).bind fun bt481 => ((millhandref23_Write.f k x442000).bind fun bt485 => ((millhandref23_Numbers.f k bt449.1 bt453.1).bind fun t489 => (if t489 = true then (if bt449.2 = bt453.2 then ((millhandref23_Numbers.f k bt457.1 bt461.1).bind fun t490 => (if t490 = true then (if bt457.2 = bt461.2 then ((millhandref23_Numbers.f k bt465.1 bt469.1).bind fun t491 => (if t491 = true then (millhandlaw23_DagTells.j1 k bt449.1 bt465.1 bt473.1 bt473.2 bt477.1 bt477.2 bt481.1 bt481.2 bt485.1 bt485.2 (bt465.2 == bt469.2) x442000 x443000 t445) else (millhandlaw23_DagTells.j1 k bt449.1 bt465.1 bt473.1 bt473.2 bt477.1 bt477.2 bt481.1 bt481.2 bt485.1 bt485.2 false x442000 x443000 t445))) else (millhandlaw23_DagTells.j1 k bt449.1 bt465.1 bt473.1 bt473.2 bt477.1 bt477.2 bt481.1 bt481.2 bt485.1 bt485.2 false x442000 x443000 t445)) else (millhandlaw23_DagTells.j1 k bt449.1 bt465.1 bt473.1 bt473.2 bt477.1 bt477.2 bt481.1 bt481.2 bt485.1 bt485.2 false x442000 x443000 t445))) else (millhandlaw23_DagTells.j1 k bt449.1 bt465.1 bt473.1 bt473.2 bt477.1 bt477.2 bt481.1 bt481.2 bt485.1 bt485.2 false x442000 x443000 t445)) else (millhandlaw23_DagTells.j1 k bt449.1 bt465.1 bt473.1 bt473.2 bt477.1 bt477.2 bt481.1 bt481.2 bt485.1 bt485.2 false x442000 x443000 t445))))))))))))))
def millhandlaw23_DagTells.j1 : Nat → List Int → List Int → List Int → Int → List Int → Int → List Int → Int → List Int → Int → Bool → List (S40) → List (S40) → List (S40) → Option (Bool)
 | 0, _, _, _, _, _, _, _, _, _, _, _, _, _, _ => none
 | k + 1, x8, x16, x20, x21, x22, x23, x24, x25, x26, x27, x28, x442000, x443000, x449000 => (millhandref23_Numbers.f k x20 x22).bind fun t492 => (if t492 = true then (if x21 = x23 then (if (strOfNums x24).toList = (strOfNums x26).toList then (if x25 = x27 then ((dag_Check.f k x449000).bind fun t493 => ((millhandref23_Check.f k x442000).bind fun t494 => (if t493 = t494 then ((dag_Same.f k x442000 x443000).bind fun t495 => ((millhandref23_Same.f k x442000 x443000).bind fun t496 => (if (t495 == t496) = true then ((dag_Same.f k x449000 x442000).bind fun t497 => (millhandlaw23_DagTells.j2 k x8 x16 x28 t497 x442000 x449000)) else (millhandlaw23_DagTells.j2 k x8 x16 x28 false x442000 x449000)))) else (millhandlaw23_DagTells.j2 k x8 x16 x28 false x442000 x449000)))) else (millhandlaw23_DagTells.j2 k x8 x16 x28 false x442000 x449000)) else (millhandlaw23_DagTells.j2 k x8 x16 x28 false x442000 x449000)) else (millhandlaw23_DagTells.j2 k x8 x16 x28 false x442000 x449000)) else (millhandlaw23_DagTells.j2 k x8 x16 x28 false x442000 x449000))
def millhandlaw23_DagTells.j2 : Nat → List Int → List Int → Bool → Bool → List (S40) → List (S40) → Option (Bool)
 | 0, _, _, _, _, _, _ => none
 | k + 1, x8, x16, x28, x29, x442000, x449000 => millhandlaw23_DagTells.l0 k x8 x16 x28 x29 0 x442000 x449000
def millhandlaw23_DagTells.l0 : Nat → List Int → List Int → Bool → Bool → Int → List (S40) → List (S40) → Option (Bool)
 | 0, _, _, _, _, _, _, _ => none
 | k + 1, x8, x16, x28, x29, x30, x442000, x449000 => if x30 < (x8.length : Int) then (if 0 ≤ x30 then (millhandlaw23_DagTells.l0 k (x8.set (x30 : Int).toNat (-77)) x16 x28 x29 (wrap64 (x30 + 1)) x442000 x449000) else (none)) else (millhandlaw23_DagTells.l1 k x16 x28 x29 0 x442000 x449000)
def millhandlaw23_DagTells.l1 : Nat → List Int → Bool → Bool → Int → List (S40) → List (S40) → Option (Bool)
 | 0, _, _, _, _, _, _ => none
 | k + 1, x16, x28, x29, x31, x442000, x449000 => if x31 < (x16.length : Int) then (if 0 ≤ x31 then (millhandlaw23_DagTells.l1 k (x16.set (x31 : Int).toNat (-77)) x28 x29 (wrap64 (x31 + 1)) x442000 x449000) else (none)) else (if x28 = true then (if x29 = true then ((millhandref23_Same.f k x449000 x442000).bind fun t500 => (some t500)) else (some false)) else (some false))
end
def millhandlaw23_DagTells.f (k : Nat) (l0_0 : List (S40)) (l1_0 : List (S40)) (l2 : List Bool) : Option (Bool) := (millhandref23_Great.f k l0_0).bind fun t443 => (if t443 = true then (millhandlaw23_DagTells.j0 k l2 true l0_0 l1_0) else ((millhandref23_Great.f k l1_0).bind fun t444 => (if t444 = true then (millhandlaw23_DagTells.j0 k l2 true l0_0 l1_0) else (millhandlaw23_DagTells.j0 k l2 (decide ((l2.length : Int) > 1000)) l0_0 l1_0))))
def millhandlaw23_DagTells.T15 : Bool × List (List Nat × List Nat) := (true, [([], []), ([], []), ([0, 1], [0, 1]), ([2, 2], [2]), ([3], [3]), ([3], [3]), ([4, 5, 3], [3, 4, 5]), ([3, 6], [3, 6]), ([7, 3], [7]), ([8], [8]), ([9, 8], [8, 9]), ([8], [8]), ([11, 8], [8, 11]), ([10, 12, 8], [8, 10, 12]), ([8, 13], [8, 13]), ([14, 8], [14]), ([15], [15]), ([15], [15]), ([16, 17, 15], [15, 16, 17]), ([15, 18], [15, 18]), ([19, 15], [19]), ([20], [20]), ([21, 20, 20], [20, 21]), ([20], [20]), ([23, 22, 20], [20, 23]), ([22, 24, 20], [20, 22, 24]), ([20, 25], [20, 25]), ([26, 24], [26]), ([27], [27]), ([27], [27]), ([28, 29, 27, 27], [27, 28, 29]), ([27], [27]), ([27], [27]), ([31, 32, 30, 27], [27, 31, 32]), ([30, 33, 27], [27, 30, 33]), ([27, 34], [27, 34]), ([35, 33], [35]), ([36], [36]), ([36], [36]), ([37, 38, 36, 36], [36, 37, 38]), ([36, 39], [36, 39]), ([40, 39, 0, 1, 2, 3, 4, 5, 6, 7, 8, 9, 10, 11, 12, 13, 14, 15, 16, 17, 18, 19, 20, 21, 22, 23, 24, 25, 26, 27, 28, 29, 30, 31, 32, 33, 34, 35, 36, 37, 38, 39, 40], [40])])
def millhandlaw23_DagTells.B15 : List Nat := [0, 0, 3, 7, 15, 15, 63, 127, 255, 511, 1023, 511, 2559, 8191, 16383, 32767, 65535, 65535, 262143, 524287, 1048575, 2097151, 4194303, 2097151, 16777215, 33554431, 67108863, 134217727, 268435455, 268435455, 1073741823, 268435455, 268435455, 8589934591, 17179869183, 34359738367, 68719476735, 137438953471, 137438953471, 549755813887, 1099511627775, 2199023255551]
theorem millhandlaw23_DagTells.tab15 : rtab .any (opsOf Try.f6 15) = millhandlaw23_DagTells.T15 := by kernel_rfl
theorem millhandlaw23_DagTells.bits15 : waitsOk millhandlaw23_DagTells.T15.2 millhandlaw23_DagTells.B15 = true := by kernel_rfl
set_option maxHeartbeats 8000000 in
set_option maxRecDepth 100000 in
theorem millhandlaw23_DagTells.calls (k : Nat) (A0_0 : Option Addr) (c0_0 : Nat) (l0_0 : List (S40)) (A1_0 : Option Addr) (c1_0 : Nat) (l1_0 : List (S40)) (A2 : Option Addr) (c2 : Nat) (l2 : List Bool) (r : Bool) (w : World) (hr0_0 : Kd.C k40 w A0_0 l0_0.length l0_0) (hc0_0 : l0_0.length ≤ c0_0) (hr1_0 : Kd.C k40 w A1_0 l1_0.length l1_0) (hc1_0 : l1_0.length ≤ c1_0) (hr2 : Kd.C Kd.bool w A2 l2.length l2) (hc2 : l2.length ≤ c2) (h : millhandlaw23_DagTells.f k l0_0 l1_0 l2 = some r) :
  Calls Try.prog 6 #[.agg #[.slice A0_0 l0_0.length c0_0], .agg #[.slice A1_0 l1_0.length c1_0], .slice A2 l2.length c2] w fun e w' => e = .returned (.bool r) ∧ Below w.heap.size w w' := by
 have hu25 := Try.underlying25
 have HR0_0 := Aside0.mk hr0_0
 have HC0_0 := Aside0.mk hc0_0
 clear hr0_0 hc0_0
 have HR1_0 := Aside0.mk hr1_0
 have HC1_0 := Aside0.mk hc1_0
 clear hr1_0 hc1_0
 have HR2 := Aside0.mk hr2
 have HC2 := Aside0.mk hc2
 clear hr2 hc2
 have HB := Aside0.mk (Below.refl w.heap.size w)
 have H : ((millhandref23_Great.f k l0_0).bind fun t443 => (if t443 = true then (millhandlaw23_DagTells.j0 k l2 true l0_0 l1_0) else ((millhandref23_Great.f k l1_0).bind fun t444 => (if t444 = true then (millhandlaw23_DagTells.j0 k l2 true l0_0 l1_0) else (millhandlaw23_DagTells.j0 k l2 (decide ((l2.length : Int) > 1000)) l0_0 l1_0))))) = some r := h
 clear h
 have HC4 := Aside0.mk H
 clear H
 go_enter Try.func6, Try.ntmps6
 go_upto_region 1 with (first | ((with_reducible refine gate_dst (N := 3) rfl ?_); (try (refine gate_guard (by rfl) ?_; dsimp only)); refine box_event ?hg (N := 3) ?hd (cs := #[.slice A0_0 l0_0.length c0_0]) (t := 25) ?hr ?_; (case hd => rfl); (case hg => rfl); (case hr => first | (go_simp; done) | (go_simp; rfl)); intro gb441 hg w5 hbox hb; have n0_ := Aside0.mk (below_step (by repeat (first | (with_reducible first | exact HB.out | apply below_alloc | apply pw_below_drewN | apply below_drew1) | exact HB.out)) hb); have n1_ := Aside0.mk (hbox); have n2_ := Aside0.mk ((by rw [hg]; exact (below_size (by repeat (first | (with_reducible first | exact HB.out | apply below_alloc | apply pw_below_drewN | apply below_drew1) | exact HB.out))) : w.heap.size ≤ gb441)); have n3_ := Aside0.mk ((by rw [hg]; exact (below_size (by repeat (first | (with_reducible first | exact HB.out | apply below_alloc | apply pw_below_drewN | apply below_drew1) | exact HB.out))) : w.heap.size ≤ gb441)); clear HB; have HB := n0_; have BK441 := n1_; have GW441 := n2_; have GE441 := n3_; clear n0_ n1_ n2_ n3_; clear hb hbox hg) | ((with_reducible refine gate_dst (N := 4) rfl ?_); (try (refine gate_guard (by rfl) ?_; dsimp only)); refine box_event ?hg (N := 4) ?hd (cs := #[.slice A1_0 l1_0.length c1_0]) (t := 25) ?hr ?_; (case hd => rfl); (case hg => rfl); (case hr => first | (go_simp; done) | (go_simp; rfl)); intro gb442 hg w6 hbox hb; have n0_ := Aside0.mk (blk_below (g := gb441) (o := .cells #[.slice A0_0 l0_0.length c0_0] 25 (0, 0)) (by (with_reducible repeat (first | refine blk_drewN ?_ _ | refine blk_drew ?_ | refine blk_alloc ?_ _)); exact BK441.out) hb); have n1_ := Aside0.mk (below_step (by repeat (first | (with_reducible first | exact HB.out | apply below_alloc | apply pw_below_drewN | apply below_drew1 | refine below_set ?_ GE441.out) | exact HB.out)) hb); have n2_ := Aside0.mk (hbox); have n3_ := Aside0.mk ((by rw [hg]; exact (below_size (by repeat (first | (with_reducible first | exact HB.out | apply below_alloc | apply pw_below_drewN | apply below_drew1 | refine below_set ?_ GE441.out) | exact HB.out))) : w.heap.size ≤ gb442)); have n4_ := Aside0.mk ((by rw [hg]; exact (below_size (by repeat (first | (with_reducible first | exact HB.out | apply below_alloc | apply pw_below_drewN | apply below_drew1 | refine below_set ?_ GE441.out) | exact HB.out))) : w.heap.size ≤ gb442)); have n5_ := Aside0.mk ((by rw [hg]; exact Nat.ne_of_lt (blk_lt (g := gb441) (o := .cells #[.slice A0_0 l0_0.length c0_0] 25 (0, 0)) (by (with_reducible repeat (first | refine blk_drewN ?_ _ | refine blk_drew ?_ | refine blk_alloc ?_ _)); exact BK441.out)) : gb441 ≠ gb442)); have n6_ := Aside0.mk ((by rw [hg]; exact Nat.ne_of_gt (blk_lt (g := gb441) (o := .cells #[.slice A0_0 l0_0.length c0_0] 25 (0, 0)) (by (with_reducible repeat (first | refine blk_drewN ?_ _ | refine blk_drew ?_ | refine blk_alloc ?_ _)); exact BK441.out)) : gb442 ≠ gb441)); clear BK441; clear HB; have BK441 := n0_; have HB := n1_; have BK442 := n2_; have GW442 := n3_; have GE442 := n4_; have NB441_442 := n5_; have NB442_441 := n6_; clear n0_ n1_ n2_ n3_ n4_ n5_ n6_; clear hb hbox hg))
 (try simp only [Act.put, sa_, s0_, s1_])
 go_cut [42] (fun v42 wc => ∃ (kq : Nat) (x42_3 : Bool), v42 = .bool x42_3 ∧ Aside0 (x42_3 = false → TellsS l0_0 l1_0 l2) ∧ Aside0 (millhandlaw23_DagTells.j0 kq l2 x42_3 l0_0 l1_0 = some r) ∧ Aside0 (kq ≤ k) ∧ Aside0 (wc.heap[gb441]? = some (.cells #[(.slice A0_0 l0_0.length c0_0)] 25 (0, 0))) ∧ Aside0 (wc.heap[gb442]? = some (.cells #[(.slice A1_0 l1_0.length c1_0)] 25 (0, 0))) ∧ Aside0 (Below w.heap.size w wc))
 case first =>
  have H := HC4.out
  clear HC4
  replace H := Option.bind_eq_some_iff.mp H
  obtain ⟨t443, A70, H⟩ := H
  replace H : (if t443 = true then (millhandlaw23_DagTells.j0 k l2 true l0_0 l1_0) else ((millhandref23_Great.f k l1_0).bind fun t444 => (if t444 = true then (millhandlaw23_DagTells.j0 k l2 true l0_0 l1_0) else (millhandlaw23_DagTells.j0 k l2 (decide ((l2.length : Int) > 1000)) l0_0 l1_0)))) = some r := H
  have A7 := Aside0.mk A70
  clear A70
  by_cases c8 : t443 = true
  ·
   subst c8
   have H1 : (millhandlaw23_DagTells.j0 k l2 true l0_0 l1_0) = some r := by rw [if_pos rfl] at H; exact H
   clear H
   have H := H1
   clear H1
   have H' := Aside0.mk H
   clear H
   have hnb9 := NB441_442.out
   have hnc9 := NB442_441.out
   have hcz10_0 : w6.cell? ⟨gb441, 0, none⟩ = some (.slice A0_0 l0_0.length c0_0) := (blk_cell BK441.out 0).trans rfl
   have hfz10_0 := blk_frozen BK441.out 0
   go_wp2_with (first | ((with_reducible refine gate_callee (f := 13) rfl ?_); refine goesL_ (some 33) rfl rfl Try.func13 (by kernel_rfl) rfl #[.agg #[.slice A0_0 l0_0.length c0_0]] rfl (by (try simp only [List.map_toArray, List.map_cons, List.map_nil]); first | done | rfl | (simp only [List.length_drop, List.length_take]; rfl)) ?_; (with_reducible refine (millhandref23_Great.calls k _ _ l0_0 true _ ?side1 ?side2 A7.out).mono ?_); (case side1 => repeat (first | exact (Kd.C_below HR0_0.out HB.out) | (with_reducible refine Kd.C_alloc ?_ _) | (with_reducible refine Kd.C_drewN ?_ _) | (with_reducible refine Kd.C_drew ?_))); (case side2 => exact HC0_0.out); rintro e w11 ⟨rfl, hb⟩; refine ⟨_, rfl, ?_⟩; have n0_ := Aside0.mk (blk_below (g := gb441) (o := .cells #[.slice A0_0 l0_0.length c0_0] 25 (0, 0)) (by (with_reducible repeat (first | refine blk_drewN ?_ _ | refine blk_drew ?_ | refine blk_alloc ?_ _)); exact BK441.out) hb); have n1_ := Aside0.mk (blk_below (g := gb442) (o := .cells #[.slice A1_0 l1_0.length c1_0] 25 (0, 0)) (by (with_reducible repeat (first | refine blk_drewN ?_ _ | refine blk_drew ?_ | refine blk_alloc ?_ _)); exact BK442.out) hb); have n2_ := Aside0.mk (below_step (by repeat (first | (with_reducible first | exact HB.out | apply below_alloc | apply pw_below_drewN | apply below_drew1 | refine below_set ?_ GE441.out | refine below_set ?_ GE442.out) | exact HB.out)) hb); clear BK441; clear BK442; clear HB; have BK441 := n0_; have BK442 := n1_; have HB := n2_; clear n0_ n1_ n2_; (try clear hb); (try clear hb2); (try clear hk); (try clear hi)))
   go_meet
   case rel => exact ⟨_, (true), (by first | rfl | (simp; done) | (simp [*]; done)), ⟨fun e_ => by cases e_⟩, H', ⟨by first | omega | exact Nat.le_refl _⟩, ⟨by (with_reducible repeat (first | refine blk_drewN ?_ _ | refine blk_drew ?_ | refine blk_alloc ?_ _)); exact BK441.out⟩, ⟨by (with_reducible repeat (first | refine blk_drewN ?_ _ | refine blk_drew ?_ | refine blk_alloc ?_ _)); exact BK442.out⟩, ⟨by repeat (first | (with_reducible first | exact HB.out | apply below_alloc | apply pw_below_drewN | apply below_drew1 | refine below_set ?_ GE441.out | refine below_set ?_ GE442.out) | exact HB.out)⟩⟩
  ·
   replace c8 := Bool.eq_false_iff.mpr c8
   subst c8
   have H1 : ((millhandref23_Great.f k l1_0).bind fun t444 => (if t444 = true then (millhandlaw23_DagTells.j0 k l2 true l0_0 l1_0) else (millhandlaw23_DagTells.j0 k l2 (decide ((l2.length : Int) > 1000)) l0_0 l1_0))) = some r := by rw [if_neg (show ¬ (false = true) by decide)] at H; exact H
   clear H
   have H := H1
   clear H1
   replace H := Option.bind_eq_some_iff.mp H
   obtain ⟨t444, A120, H⟩ := H
   replace H : (if t444 = true then (millhandlaw23_DagTells.j0 k l2 true l0_0 l1_0) else (millhandlaw23_DagTells.j0 k l2 (decide ((l2.length : Int) > 1000)) l0_0 l1_0)) = some r := H
   have A12 := Aside0.mk A120
   clear A120
   by_cases c13 : t444 = true
   ·
    subst c13
    have H1 : (millhandlaw23_DagTells.j0 k l2 true l0_0 l1_0) = some r := by rw [if_pos rfl] at H; exact H
    clear H
    have H := H1
    clear H1
    have H' := Aside0.mk H
    clear H
    have hnb14 := NB441_442.out
    have hnc14 := NB442_441.out
    have hcz15_0 : w6.cell? ⟨gb441, 0, none⟩ = some (.slice A0_0 l0_0.length c0_0) := (blk_cell BK441.out 0).trans rfl
    have hfz15_0 := blk_frozen BK441.out 0
    go_wp2_with (first | ((with_reducible refine gate_callee (f := 13) rfl ?_); refine goesL_ (some 33) rfl rfl Try.func13 (by kernel_rfl) rfl #[.agg #[.slice A0_0 l0_0.length c0_0]] rfl (by (try simp only [List.map_toArray, List.map_cons, List.map_nil]); first | done | rfl | (simp only [List.length_drop, List.length_take]; rfl)) ?_; (with_reducible refine (millhandref23_Great.calls k _ _ l0_0 false _ ?side1 ?side2 A7.out).mono ?_); (case side1 => repeat (first | exact (Kd.C_below HR0_0.out HB.out) | (with_reducible refine Kd.C_alloc ?_ _) | (with_reducible refine Kd.C_drewN ?_ _) | (with_reducible refine Kd.C_drew ?_))); (case side2 => exact HC0_0.out); rintro e w16 ⟨rfl, hb⟩; refine ⟨_, rfl, ?_⟩; have n0_ := Aside0.mk (blk_below (g := gb441) (o := .cells #[.slice A0_0 l0_0.length c0_0] 25 (0, 0)) (by (with_reducible repeat (first | refine blk_drewN ?_ _ | refine blk_drew ?_ | refine blk_alloc ?_ _)); exact BK441.out) hb); have n1_ := Aside0.mk (blk_below (g := gb442) (o := .cells #[.slice A1_0 l1_0.length c1_0] 25 (0, 0)) (by (with_reducible repeat (first | refine blk_drewN ?_ _ | refine blk_drew ?_ | refine blk_alloc ?_ _)); exact BK442.out) hb); have n2_ := Aside0.mk (below_step (by repeat (first | (with_reducible first | exact HB.out | apply below_alloc | apply pw_below_drewN | apply below_drew1 | refine below_set ?_ GE441.out | refine below_set ?_ GE442.out) | exact HB.out)) hb); clear BK441; clear BK442; clear HB; have BK441 := n0_; have BK442 := n1_; have HB := n2_; clear n0_ n1_ n2_; (try clear hb); (try clear hb2); (try clear hk); (try clear hi); have hcz17_0 : w16.cell? ⟨gb442, 0, none⟩ = some (.slice A1_0 l1_0.length c1_0) := (blk_cell BK442.out 0).trans rfl; have hfz17_0 := blk_frozen BK442.out 0) | (go_at_call 13; (with_reducible refine (millhandref23_Great.calls k _ _ l1_0 true _ ?side1 ?side2 A12.out).mono ?_); (case side1 => repeat (first | exact (Kd.C_below HR1_0.out HB.out) | (with_reducible refine Kd.C_alloc ?_ _) | (with_reducible refine Kd.C_drewN ?_ _) | (with_reducible refine Kd.C_drew ?_))); (case side2 => exact HC1_0.out); rintro e w18 ⟨rfl, hb⟩; have n0_ := Aside0.mk (blk_below (g := gb441) (o := .cells #[.slice A0_0 l0_0.length c0_0] 25 (0, 0)) (by (with_reducible repeat (first | refine blk_drewN ?_ _ | refine blk_drew ?_ | refine blk_alloc ?_ _)); exact BK441.out) hb); have n1_ := Aside0.mk (blk_below (g := gb442) (o := .cells #[.slice A1_0 l1_0.length c1_0] 25 (0, 0)) (by (with_reducible repeat (first | refine blk_drewN ?_ _ | refine blk_drew ?_ | refine blk_alloc ?_ _)); exact BK442.out) hb); have n2_ := Aside0.mk (below_step (by repeat (first | (with_reducible first | exact HB.out | apply below_alloc | apply pw_below_drewN | apply below_drew1 | refine below_set ?_ GE441.out | refine below_set ?_ GE442.out) | exact HB.out)) hb); clear BK441; clear BK442; clear HB; have BK441 := n0_; have BK442 := n1_; have HB := n2_; clear n0_ n1_ n2_; (try clear hb); (try clear hb2); (try clear hk); (try clear hi)))
    go_meet
    case rel => exact ⟨_, (true), (by first | rfl | (simp; done) | (simp [*]; done)), ⟨fun e_ => by cases e_⟩, H', ⟨by first | omega | exact Nat.le_refl _⟩, ⟨by (with_reducible repeat (first | refine blk_drewN ?_ _ | refine blk_drew ?_ | refine blk_alloc ?_ _)); exact BK441.out⟩, ⟨by (with_reducible repeat (first | refine blk_drewN ?_ _ | refine blk_drew ?_ | refine blk_alloc ?_ _)); exact BK442.out⟩, ⟨by repeat (first | (with_reducible first | exact HB.out | apply below_alloc | apply pw_below_drewN | apply below_drew1 | refine below_set ?_ GE441.out | refine below_set ?_ GE442.out) | exact HB.out)⟩⟩
   ·
    replace c13 := Bool.eq_false_iff.mpr c13
    subst c13
    have H1 : (millhandlaw23_DagTells.j0 k l2 (decide ((l2.length : Int) > 1000)) l0_0 l1_0) = some r := by rw [if_neg (show ¬ (false = true) by decide)] at H; exact H
    clear H
    have H := H1
    clear H1
    have H' := Aside0.mk H
    clear H
    have hnb19 := NB441_442.out
    have hnc19 := NB442_441.out
    have hcz20_0 : w6.cell? ⟨gb441, 0, none⟩ = some (.slice A0_0 l0_0.length c0_0) := (blk_cell BK441.out 0).trans rfl
    have hfz20_0 := blk_frozen BK441.out 0
    go_wp2_with (first | ((with_reducible refine gate_callee (f := 13) rfl ?_); refine goesL_ (some 33) rfl rfl Try.func13 (by kernel_rfl) rfl #[.agg #[.slice A0_0 l0_0.length c0_0]] rfl (by (try simp only [List.map_toArray, List.map_cons, List.map_nil]); first | done | rfl | (simp only [List.length_drop, List.length_take]; rfl)) ?_; (with_reducible refine (millhandref23_Great.calls k _ _ l0_0 false _ ?side1 ?side2 A7.out).mono ?_); (case side1 => repeat (first | exact (Kd.C_below HR0_0.out HB.out) | (with_reducible refine Kd.C_alloc ?_ _) | (with_reducible refine Kd.C_drewN ?_ _) | (with_reducible refine Kd.C_drew ?_))); (case side2 => exact HC0_0.out); rintro e w21 ⟨rfl, hb⟩; refine ⟨_, rfl, ?_⟩; have n0_ := Aside0.mk (blk_below (g := gb441) (o := .cells #[.slice A0_0 l0_0.length c0_0] 25 (0, 0)) (by (with_reducible repeat (first | refine blk_drewN ?_ _ | refine blk_drew ?_ | refine blk_alloc ?_ _)); exact BK441.out) hb); have n1_ := Aside0.mk (blk_below (g := gb442) (o := .cells #[.slice A1_0 l1_0.length c1_0] 25 (0, 0)) (by (with_reducible repeat (first | refine blk_drewN ?_ _ | refine blk_drew ?_ | refine blk_alloc ?_ _)); exact BK442.out) hb); have n2_ := Aside0.mk (below_step (by repeat (first | (with_reducible first | exact HB.out | apply below_alloc | apply pw_below_drewN | apply below_drew1 | refine below_set ?_ GE441.out | refine below_set ?_ GE442.out) | exact HB.out)) hb); clear BK441; clear BK442; clear HB; have BK441 := n0_; have BK442 := n1_; have HB := n2_; clear n0_ n1_ n2_; (try clear hb); (try clear hb2); (try clear hk); (try clear hi); have hcz22_0 : w21.cell? ⟨gb442, 0, none⟩ = some (.slice A1_0 l1_0.length c1_0) := (blk_cell BK442.out 0).trans rfl; have hfz22_0 := blk_frozen BK442.out 0) | (go_at_call 13; (with_reducible refine (millhandref23_Great.calls k _ _ l1_0 false _ ?side1 ?side2 A12.out).mono ?_); (case side1 => repeat (first | exact (Kd.C_below HR1_0.out HB.out) | (with_reducible refine Kd.C_alloc ?_ _) | (with_reducible refine Kd.C_drewN ?_ _) | (with_reducible refine Kd.C_drew ?_))); (case side2 => exact HC1_0.out); rintro e w23 ⟨rfl, hb⟩; have n0_ := Aside0.mk (blk_below (g := gb441) (o := .cells #[.slice A0_0 l0_0.length c0_0] 25 (0, 0)) (by (with_reducible repeat (first | refine blk_drewN ?_ _ | refine blk_drew ?_ | refine blk_alloc ?_ _)); exact BK441.out) hb); have n1_ := Aside0.mk (blk_below (g := gb442) (o := .cells #[.slice A1_0 l1_0.length c1_0] 25 (0, 0)) (by (with_reducible repeat (first | refine blk_drewN ?_ _ | refine blk_drew ?_ | refine blk_alloc ?_ _)); exact BK442.out) hb); have n2_ := Aside0.mk (below_step (by repeat (first | (with_reducible first | exact HB.out | apply below_alloc | apply pw_below_drewN | apply below_drew1 | refine below_set ?_ GE441.out | refine below_set ?_ GE442.out) | exact HB.out)) hb); clear BK441; clear BK442; clear HB; have BK441 := n0_; have BK442 := n1_; have HB := n2_; clear n0_ n1_ n2_; (try clear hb); (try clear hb2); (try clear hk); (try clear hi)))
    go_meet
    case rel => exact ⟨_, (decide ((l2.length : Int) > 1000)), (by first | rfl | (simp; done) | (simp [*]; done)), ⟨fun e_ => tells_small A7.out A12.out e_⟩, H', ⟨by first | omega | exact Nat.le_refl _⟩, ⟨by (with_reducible repeat (first | refine blk_drewN ?_ _ | refine blk_drew ?_ | refine blk_alloc ?_ _)); exact BK441.out⟩, ⟨by (with_reducible repeat (first | refine blk_drewN ?_ _ | refine blk_drew ?_ | refine blk_alloc ?_ _)); exact BK442.out⟩, ⟨by repeat (first | (with_reducible first | exact HB.out | apply below_alloc | apply pw_below_drewN | apply below_drew1 | refine below_set ?_ GE441.out | refine below_set ?_ GE442.out) | exact HB.out)⟩⟩
 case rest =>
  clear HC4
  try clear c1
  try clear c2
  try clear p2
  try clear c6
  try clear c8
  try clear c9
  try clear c13
  try clear c14
  try clear c19
  try clear hcz10_0
  try clear hcz15_0
  try clear hcz17_0
  try clear hcz20_0
  try clear hcz22_0
  try clear hfz10_0
  try clear hfz15_0
  try clear hfz17_0
  try clear hfz20_0
  try clear hfz22_0
  obtain ⟨kq, x42_3, rfl, HTS0, HA, HJ3, BK441, BK442, HB⟩ := hcut
  cases kq with
  | zero => exact absurd HA.out (by simp [millhandlaw23_DagTells.j0])
  | succ kj3 =>
   have H := HA.out
   clear HA
   simp only [millhandlaw23_DagTells.j0] at H
   by_cases c24 : x42_3 = true
   ·
    subst c24
    have H1 : (some true) = some r := by rw [if_pos rfl] at H; exact H
    clear H
    have H := H1
    clear H1
    obtain rfl := Option.some.inj H
    go_wp2
    go_ret
    exact ⟨by first | rfl | (simp [errW_none, errW_some] <;> rfl) | (simp [*, errW_none, errW_some] <;> rfl) | exact ret_ie _ | (simp [*, errW_none, errW_some, bne]; done), by repeat (first | (with_reducible first | exact HB.out | apply below_alloc | apply pw_below_drewN | apply below_drew1 | refine below_set ?_ GE441.out | refine below_set ?_ GE442.out) | exact HB.out)⟩
   ·
    replace c24 := Bool.eq_false_iff.mpr c24
    subst c24
    have HTS := Aside0.mk (HTS0.out rfl)
    clear HTS0
    have H1 : ((millhandref23_Twin.f kj3 l0_0).bind fun t445 => ((dag_Order.f kj3 t445).bind fun bt449 => ((millhandref23_Order.f kj3 l0_0).bind fun bt453 => ((dag_Roots.f kj3 t445).bind fun bt457 => ((millhandref23_Roots.f kj3 l0_0).bind fun bt461 => ((dag_Ready.f kj3 t445 l2).bind fun bt465 => ((millhandref23_Ready.f kj3 l0_0 l2).bind fun bt469 => ((dag_Depth.f kj3 t445).bind fun bt473 => ((millhandref23_Depth.f kj3 l0_0).bind fun bt477 => ((dag_Write.f kj3 t445).bind fun bt481 => ((millhandref23_Write.f kj3 l0_0).bind fun bt485 => ((millhandref23_Numbers.f kj3 bt449.1 bt453.1).bind fun t489 => (if t489 = true then (if bt449.2 = bt453.2 then ((millhandref23_Numbers.f kj3 bt457.1 bt461.1).bind fun t490 => (if t490 = true then (if bt457.2 = bt461.2 then ((millhandref23_Numbers.f kj3 bt465.1 bt469.1).bind fun t491 => (if t491 = true then (millhandlaw23_DagTells.j1 kj3 bt449.1 bt465.1 bt473.1 bt473.2 bt477.1 bt477.2 bt481.1 bt481.2 bt485.1 bt485.2 (bt465.2 == bt469.2) l0_0 l1_0 t445) else (millhandlaw23_DagTells.j1 kj3 bt449.1 bt465.1 bt473.1 bt473.2 bt477.1 bt477.2 bt481.1 bt481.2 bt485.1 bt485.2 false l0_0 l1_0 t445))) else (millhandlaw23_DagTells.j1 kj3 bt449.1 bt465.1 bt473.1 bt473.2 bt477.1 bt477.2 bt481.1 bt481.2 bt485.1 bt485.2 false l0_0 l1_0 t445)) else (millhandlaw23_DagTells.j1 kj3 bt449.1 bt465.1 bt473.1 bt473.2 bt477.1 bt477.2 bt481.1 bt481.2 bt485.1 bt485.2 false l0_0 l1_0 t445))) else (millhandlaw23_DagTells.j1 kj3 bt449.1 bt465.1 bt473.1 bt473.2 bt477.1 bt477.2 bt481.1 bt481.2 bt485.1 bt485.2 false l0_0 l1_0 t445)) else (millhandlaw23_DagTells.j1 kj3 bt449.1 bt465.1 bt473.1 bt473.2 bt477.1 bt477.2 bt481.1 bt481.2 bt485.1 bt485.2 false l0_0 l1_0 t445)))))))))))))) = some r := by rw [if_neg (show ¬ (false = true) by decide)] at H; exact H
    clear H
    have H := H1
    clear H1
    replace H := Option.bind_eq_some_iff.mp H
    obtain ⟨t445, A250, H⟩ := H
    try dsimp only at H
    have A25 := Aside0.mk A250
    clear A250
    replace H := Option.bind_eq_some_iff.mp H
    obtain ⟨⟨t449, t452⟩, A260, H⟩ := H
    try dsimp only at H
    have A26 := Aside0.mk A260
    clear A260
    replace H := Option.bind_eq_some_iff.mp H
    obtain ⟨⟨t453, t456⟩, A270, H⟩ := H
    try dsimp only at H
    have A27 := Aside0.mk A270
    clear A270
    replace H := Option.bind_eq_some_iff.mp H
    obtain ⟨⟨t457, t460⟩, A280, H⟩ := H
    replace H : ((millhandref23_Roots.f kj3 l0_0).bind fun bt461 => ((dag_Ready.f kj3 t445 l2).bind fun bt465 => ((millhandref23_Ready.f kj3 l0_0 l2).bind fun bt469 => ((dag_Depth.f kj3 t445).bind fun bt473 => ((millhandref23_Depth.f kj3 l0_0).bind fun bt477 => ((dag_Write.f kj3 t445).bind fun bt481 => ((millhandref23_Write.f kj3 l0_0).bind fun bt485 => ((millhandref23_Numbers.f kj3 t449 t453).bind fun t489 => (if t489 = true then (if t452 = t456 then ((millhandref23_Numbers.f kj3 t457 bt461.1).bind fun t490 => (if t490 = true then (if t460 = bt461.2 then ((millhandref23_Numbers.f kj3 bt465.1 bt469.1).bind fun t491 => (if t491 = true then (millhandlaw23_DagTells.j1 kj3 t449 bt465.1 bt473.1 bt473.2 bt477.1 bt477.2 bt481.1 bt481.2 bt485.1 bt485.2 (bt465.2 == bt469.2) l0_0 l1_0 t445) else (millhandlaw23_DagTells.j1 kj3 t449 bt465.1 bt473.1 bt473.2 bt477.1 bt477.2 bt481.1 bt481.2 bt485.1 bt485.2 false l0_0 l1_0 t445))) else (millhandlaw23_DagTells.j1 kj3 t449 bt465.1 bt473.1 bt473.2 bt477.1 bt477.2 bt481.1 bt481.2 bt485.1 bt485.2 false l0_0 l1_0 t445)) else (millhandlaw23_DagTells.j1 kj3 t449 bt465.1 bt473.1 bt473.2 bt477.1 bt477.2 bt481.1 bt481.2 bt485.1 bt485.2 false l0_0 l1_0 t445))) else (millhandlaw23_DagTells.j1 kj3 t449 bt465.1 bt473.1 bt473.2 bt477.1 bt477.2 bt481.1 bt481.2 bt485.1 bt485.2 false l0_0 l1_0 t445)) else (millhandlaw23_DagTells.j1 kj3 t449 bt465.1 bt473.1 bt473.2 bt477.1 bt477.2 bt481.1 bt481.2 bt485.1 bt485.2 false l0_0 l1_0 t445)))))))))) = some r := H
    have A28 := Aside0.mk A280
    clear A280
    replace H := Option.bind_eq_some_iff.mp H
    obtain ⟨⟨t461, t464⟩, A290, H⟩ := H
    replace H : ((dag_Ready.f kj3 t445 l2).bind fun bt465 => ((millhandref23_Ready.f kj3 l0_0 l2).bind fun bt469 => ((dag_Depth.f kj3 t445).bind fun bt473 => ((millhandref23_Depth.f kj3 l0_0).bind fun bt477 => ((dag_Write.f kj3 t445).bind fun bt481 => ((millhandref23_Write.f kj3 l0_0).bind fun bt485 => ((millhandref23_Numbers.f kj3 t449 t453).bind fun t489 => (if t489 = true then (if t452 = t456 then ((millhandref23_Numbers.f kj3 t457 t461).bind fun t490 => (if t490 = true then (if t460 = t464 then ((millhandref23_Numbers.f kj3 bt465.1 bt469.1).bind fun t491 => (if t491 = true then (millhandlaw23_DagTells.j1 kj3 t449 bt465.1 bt473.1 bt473.2 bt477.1 bt477.2 bt481.1 bt481.2 bt485.1 bt485.2 (bt465.2 == bt469.2) l0_0 l1_0 t445) else (millhandlaw23_DagTells.j1 kj3 t449 bt465.1 bt473.1 bt473.2 bt477.1 bt477.2 bt481.1 bt481.2 bt485.1 bt485.2 false l0_0 l1_0 t445))) else (millhandlaw23_DagTells.j1 kj3 t449 bt465.1 bt473.1 bt473.2 bt477.1 bt477.2 bt481.1 bt481.2 bt485.1 bt485.2 false l0_0 l1_0 t445)) else (millhandlaw23_DagTells.j1 kj3 t449 bt465.1 bt473.1 bt473.2 bt477.1 bt477.2 bt481.1 bt481.2 bt485.1 bt485.2 false l0_0 l1_0 t445))) else (millhandlaw23_DagTells.j1 kj3 t449 bt465.1 bt473.1 bt473.2 bt477.1 bt477.2 bt481.1 bt481.2 bt485.1 bt485.2 false l0_0 l1_0 t445)) else (millhandlaw23_DagTells.j1 kj3 t449 bt465.1 bt473.1 bt473.2 bt477.1 bt477.2 bt481.1 bt481.2 bt485.1 bt485.2 false l0_0 l1_0 t445))))))))) = some r := H
    have A29 := Aside0.mk A290
    clear A290
    replace H := Option.bind_eq_some_iff.mp H
    obtain ⟨⟨t465, t468⟩, A300, H⟩ := H
    replace H : ((millhandref23_Ready.f kj3 l0_0 l2).bind fun bt469 => ((dag_Depth.f kj3 t445).bind fun bt473 => ((millhandref23_Depth.f kj3 l0_0).bind fun bt477 => ((dag_Write.f kj3 t445).bind fun bt481 => ((millhandref23_Write.f kj3 l0_0).bind fun bt485 => ((millhandref23_Numbers.f kj3 t449 t453).bind fun t489 => (if t489 = true then (if t452 = t456 then ((millhandref23_Numbers.f kj3 t457 t461).bind fun t490 => (if t490 = true then (if t460 = t464 then ((millhandref23_Numbers.f kj3 t465 bt469.1).bind fun t491 => (if t491 = true then (millhandlaw23_DagTells.j1 kj3 t449 t465 bt473.1 bt473.2 bt477.1 bt477.2 bt481.1 bt481.2 bt485.1 bt485.2 (t468 == bt469.2) l0_0 l1_0 t445) else (millhandlaw23_DagTells.j1 kj3 t449 t465 bt473.1 bt473.2 bt477.1 bt477.2 bt481.1 bt481.2 bt485.1 bt485.2 false l0_0 l1_0 t445))) else (millhandlaw23_DagTells.j1 kj3 t449 t465 bt473.1 bt473.2 bt477.1 bt477.2 bt481.1 bt481.2 bt485.1 bt485.2 false l0_0 l1_0 t445)) else (millhandlaw23_DagTells.j1 kj3 t449 t465 bt473.1 bt473.2 bt477.1 bt477.2 bt481.1 bt481.2 bt485.1 bt485.2 false l0_0 l1_0 t445))) else (millhandlaw23_DagTells.j1 kj3 t449 t465 bt473.1 bt473.2 bt477.1 bt477.2 bt481.1 bt481.2 bt485.1 bt485.2 false l0_0 l1_0 t445)) else (millhandlaw23_DagTells.j1 kj3 t449 t465 bt473.1 bt473.2 bt477.1 bt477.2 bt481.1 bt481.2 bt485.1 bt485.2 false l0_0 l1_0 t445)))))))) = some r := H
    have A30 := Aside0.mk A300
    clear A300
    replace H := Option.bind_eq_some_iff.mp H
    obtain ⟨⟨t469, t472⟩, A310, H⟩ := H
    replace H : ((dag_Depth.f kj3 t445).bind fun bt473 => ((millhandref23_Depth.f kj3 l0_0).bind fun bt477 => ((dag_Write.f kj3 t445).bind fun bt481 => ((millhandref23_Write.f kj3 l0_0).bind fun bt485 => ((millhandref23_Numbers.f kj3 t449 t453).bind fun t489 => (if t489 = true then (if t452 = t456 then ((millhandref23_Numbers.f kj3 t457 t461).bind fun t490 => (if t490 = true then (if t460 = t464 then ((millhandref23_Numbers.f kj3 t465 t469).bind fun t491 => (if t491 = true then (millhandlaw23_DagTells.j1 kj3 t449 t465 bt473.1 bt473.2 bt477.1 bt477.2 bt481.1 bt481.2 bt485.1 bt485.2 (t468 == t472) l0_0 l1_0 t445) else (millhandlaw23_DagTells.j1 kj3 t449 t465 bt473.1 bt473.2 bt477.1 bt477.2 bt481.1 bt481.2 bt485.1 bt485.2 false l0_0 l1_0 t445))) else (millhandlaw23_DagTells.j1 kj3 t449 t465 bt473.1 bt473.2 bt477.1 bt477.2 bt481.1 bt481.2 bt485.1 bt485.2 false l0_0 l1_0 t445)) else (millhandlaw23_DagTells.j1 kj3 t449 t465 bt473.1 bt473.2 bt477.1 bt477.2 bt481.1 bt481.2 bt485.1 bt485.2 false l0_0 l1_0 t445))) else (millhandlaw23_DagTells.j1 kj3 t449 t465 bt473.1 bt473.2 bt477.1 bt477.2 bt481.1 bt481.2 bt485.1 bt485.2 false l0_0 l1_0 t445)) else (millhandlaw23_DagTells.j1 kj3 t449 t465 bt473.1 bt473.2 bt477.1 bt477.2 bt481.1 bt481.2 bt485.1 bt485.2 false l0_0 l1_0 t445))))))) = some r := H
    have A31 := Aside0.mk A310
    clear A310
    replace H := Option.bind_eq_some_iff.mp H
    obtain ⟨⟨t473, t476⟩, A320, H⟩ := H
    replace H : ((millhandref23_Depth.f kj3 l0_0).bind fun bt477 => ((dag_Write.f kj3 t445).bind fun bt481 => ((millhandref23_Write.f kj3 l0_0).bind fun bt485 => ((millhandref23_Numbers.f kj3 t449 t453).bind fun t489 => (if t489 = true then (if t452 = t456 then ((millhandref23_Numbers.f kj3 t457 t461).bind fun t490 => (if t490 = true then (if t460 = t464 then ((millhandref23_Numbers.f kj3 t465 t469).bind fun t491 => (if t491 = true then (millhandlaw23_DagTells.j1 kj3 t449 t465 t473 t476 bt477.1 bt477.2 bt481.1 bt481.2 bt485.1 bt485.2 (t468 == t472) l0_0 l1_0 t445) else (millhandlaw23_DagTells.j1 kj3 t449 t465 t473 t476 bt477.1 bt477.2 bt481.1 bt481.2 bt485.1 bt485.2 false l0_0 l1_0 t445))) else (millhandlaw23_DagTells.j1 kj3 t449 t465 t473 t476 bt477.1 bt477.2 bt481.1 bt481.2 bt485.1 bt485.2 false l0_0 l1_0 t445)) else (millhandlaw23_DagTells.j1 kj3 t449 t465 t473 t476 bt477.1 bt477.2 bt481.1 bt481.2 bt485.1 bt485.2 false l0_0 l1_0 t445))) else (millhandlaw23_DagTells.j1 kj3 t449 t465 t473 t476 bt477.1 bt477.2 bt481.1 bt481.2 bt485.1 bt485.2 false l0_0 l1_0 t445)) else (millhandlaw23_DagTells.j1 kj3 t449 t465 t473 t476 bt477.1 bt477.2 bt481.1 bt481.2 bt485.1 bt485.2 false l0_0 l1_0 t445)))))) = some r := H
    have A32 := Aside0.mk A320
    clear A320
    replace H := Option.bind_eq_some_iff.mp H
    obtain ⟨⟨t477, t480⟩, A330, H⟩ := H
    replace H : ((dag_Write.f kj3 t445).bind fun bt481 => ((millhandref23_Write.f kj3 l0_0).bind fun bt485 => ((millhandref23_Numbers.f kj3 t449 t453).bind fun t489 => (if t489 = true then (if t452 = t456 then ((millhandref23_Numbers.f kj3 t457 t461).bind fun t490 => (if t490 = true then (if t460 = t464 then ((millhandref23_Numbers.f kj3 t465 t469).bind fun t491 => (if t491 = true then (millhandlaw23_DagTells.j1 kj3 t449 t465 t473 t476 t477 t480 bt481.1 bt481.2 bt485.1 bt485.2 (t468 == t472) l0_0 l1_0 t445) else (millhandlaw23_DagTells.j1 kj3 t449 t465 t473 t476 t477 t480 bt481.1 bt481.2 bt485.1 bt485.2 false l0_0 l1_0 t445))) else (millhandlaw23_DagTells.j1 kj3 t449 t465 t473 t476 t477 t480 bt481.1 bt481.2 bt485.1 bt485.2 false l0_0 l1_0 t445)) else (millhandlaw23_DagTells.j1 kj3 t449 t465 t473 t476 t477 t480 bt481.1 bt481.2 bt485.1 bt485.2 false l0_0 l1_0 t445))) else (millhandlaw23_DagTells.j1 kj3 t449 t465 t473 t476 t477 t480 bt481.1 bt481.2 bt485.1 bt485.2 false l0_0 l1_0 t445)) else (millhandlaw23_DagTells.j1 kj3 t449 t465 t473 t476 t477 t480 bt481.1 bt481.2 bt485.1 bt485.2 false l0_0 l1_0 t445))))) = some r := H
    have A33 := Aside0.mk A330
    clear A330
    replace H := Option.bind_eq_some_iff.mp H
    obtain ⟨⟨t481, t484⟩, A340, H⟩ := H
    replace H : ((millhandref23_Write.f kj3 l0_0).bind fun bt485 => ((millhandref23_Numbers.f kj3 t449 t453).bind fun t489 => (if t489 = true then (if t452 = t456 then ((millhandref23_Numbers.f kj3 t457 t461).bind fun t490 => (if t490 = true then (if t460 = t464 then ((millhandref23_Numbers.f kj3 t465 t469).bind fun t491 => (if t491 = true then (millhandlaw23_DagTells.j1 kj3 t449 t465 t473 t476 t477 t480 t481 t484 bt485.1 bt485.2 (t468 == t472) l0_0 l1_0 t445) else (millhandlaw23_DagTells.j1 kj3 t449 t465 t473 t476 t477 t480 t481 t484 bt485.1 bt485.2 false l0_0 l1_0 t445))) else (millhandlaw23_DagTells.j1 kj3 t449 t465 t473 t476 t477 t480 t481 t484 bt485.1 bt485.2 false l0_0 l1_0 t445)) else (millhandlaw23_DagTells.j1 kj3 t449 t465 t473 t476 t477 t480 t481 t484 bt485.1 bt485.2 false l0_0 l1_0 t445))) else (millhandlaw23_DagTells.j1 kj3 t449 t465 t473 t476 t477 t480 t481 t484 bt485.1 bt485.2 false l0_0 l1_0 t445)) else (millhandlaw23_DagTells.j1 kj3 t449 t465 t473 t476 t477 t480 t481 t484 bt485.1 bt485.2 false l0_0 l1_0 t445)))) = some r := H
    have A34 := Aside0.mk A340
    clear A340
    replace H := Option.bind_eq_some_iff.mp H
    obtain ⟨⟨t485, t488⟩, A350, H⟩ := H
    replace H : ((millhandref23_Numbers.f kj3 t449 t453).bind fun t489 => (if t489 = true then (if t452 = t456 then ((millhandref23_Numbers.f kj3 t457 t461).bind fun t490 => (if t490 = true then (if t460 = t464 then ((millhandref23_Numbers.f kj3 t465 t469).bind fun t491 => (if t491 = true then (millhandlaw23_DagTells.j1 kj3 t449 t465 t473 t476 t477 t480 t481 t484 t485 t488 (t468 == t472) l0_0 l1_0 t445) else (millhandlaw23_DagTells.j1 kj3 t449 t465 t473 t476 t477 t480 t481 t484 t485 t488 false l0_0 l1_0 t445))) else (millhandlaw23_DagTells.j1 kj3 t449 t465 t473 t476 t477 t480 t481 t484 t485 t488 false l0_0 l1_0 t445)) else (millhandlaw23_DagTells.j1 kj3 t449 t465 t473 t476 t477 t480 t481 t484 t485 t488 false l0_0 l1_0 t445))) else (millhandlaw23_DagTells.j1 kj3 t449 t465 t473 t476 t477 t480 t481 t484 t485 t488 false l0_0 l1_0 t445)) else (millhandlaw23_DagTells.j1 kj3 t449 t465 t473 t476 t477 t480 t481 t484 t485 t488 false l0_0 l1_0 t445))) = some r := H
    have A35 := Aside0.mk A350
    clear A350
    have HE := Aside0.mk (tells_same HTS.out A25.out A26.out A27.out A28.out A29.out A30.out A31.out A32.out A33.out A34.out A35.out)
    have HC36 := Aside0.mk H
    clear H
    have hnb37 := NB441_442.out
    have hnc37 := NB442_441.out
    have hcz38_0 : wc.cell? ⟨gb441, 0, none⟩ = some (.slice A0_0 l0_0.length c0_0) := (blk_cell BK441.out 0).trans rfl
    have hfz38_0 := blk_frozen BK441.out 0
    go_upto_region 14 with (first | ((with_reducible refine gate_callee (f := 18) rfl ?_); refine goesL_ (some 44) rfl rfl Try.func18 (by kernel_rfl) rfl #[.agg #[.slice A0_0 l0_0.length c0_0]] rfl (by (try simp only [List.map_toArray, List.map_cons, List.map_nil]); first | done | rfl | (simp only [List.length_drop, List.length_take]; rfl)) ?_; (with_reducible refine (millhandref23_Twin.calls kj3 _ _ l0_0 t445 _ ?side1 ?side2 A25.out).mono ?_); (case side1 => repeat (first | exact (Kd.C_below HR0_0.out HB.out) | (with_reducible refine Kd.C_alloc ?_ _) | (with_reducible refine Kd.C_drewN ?_ _) | (with_reducible refine Kd.C_drew ?_))); (case side2 => exact HC0_0.out); rintro e w39 ⟨v446, rfl, ho0, hb⟩; refine ⟨_, rfl, ?_⟩; have n0_ := Aside0.mk (Kd.S_lower ho0 (below_size (by repeat (first | (with_reducible first | exact HB.out | apply below_alloc | apply pw_below_drewN | apply below_drew1 | refine below_set ?_ GE441.out | refine below_set ?_ GE442.out) | exact HB.out)))); have n1_ := Aside0.mk (blk_below (g := gb441) (o := .cells #[.slice A0_0 l0_0.length c0_0] 25 (0, 0)) (by (with_reducible repeat (first | refine blk_drewN ?_ _ | refine blk_drew ?_ | refine blk_alloc ?_ _)); exact BK441.out) hb); have n2_ := Aside0.mk (blk_below (g := gb442) (o := .cells #[.slice A1_0 l1_0.length c1_0] 25 (0, 0)) (by (with_reducible repeat (first | refine blk_drewN ?_ _ | refine blk_drew ?_ | refine blk_alloc ?_ _)); exact BK442.out) hb); have n3_ := Aside0.mk (below_step (by repeat (first | (with_reducible first | exact HB.out | apply below_alloc | apply pw_below_drewN | apply below_drew1 | refine below_set ?_ GE441.out | refine below_set ?_ GE442.out) | exact HB.out)) hb); clear BK441; clear BK442; clear HB; have HO447 := n0_; have BK441 := n1_; have BK442 := n2_; have HB := n3_; clear n0_ n1_ n2_ n3_; (try clear hb); (try clear hb2); (try clear hk); (try clear hi); (try clear ho0)) | ((with_reducible refine gate_dst (N := 7) rfl ?_); (try (refine gate_guard (by rfl) ?_; dsimp only)); refine box_event ?hg (N := 7) ?hd (cs := #[.slice none 0 0]) (t := 25) ?hr ?_; (case hd => rfl); (case hg => rfl); (case hr => first | (go_simp; done) | (go_simp; rfl)); intro gb448 hg w40 hbox hb; have n0_ := Aside0.mk (Kd.S_below (by (with_reducible repeat (first | apply Kd.S_alloc | apply Kd.S_drewN | apply Kd.S_drew)); exact HO447.out) hb); have n1_ := Aside0.mk (blk_below (g := gb441) (o := .cells #[.slice A0_0 l0_0.length c0_0] 25 (0, 0)) (by (with_reducible repeat (first | refine blk_drewN ?_ _ | refine blk_drew ?_ | refine blk_alloc ?_ _)); exact BK441.out) hb); have n2_ := Aside0.mk (blk_below (g := gb442) (o := .cells #[.slice A1_0 l1_0.length c1_0] 25 (0, 0)) (by (with_reducible repeat (first | refine blk_drewN ?_ _ | refine blk_drew ?_ | refine blk_alloc ?_ _)); exact BK442.out) hb); have n3_ := Aside0.mk (below_step (by repeat (first | (with_reducible first | exact HB.out | apply below_alloc | apply pw_below_drewN | apply below_drew1 | refine below_set ?_ GE441.out | refine below_set ?_ GE442.out) | exact HB.out)) hb); have n4_ := Aside0.mk (hbox); have n5_ := Aside0.mk ((by rw [hg]; exact (below_size (by repeat (first | (with_reducible first | exact HB.out | apply below_alloc | apply pw_below_drewN | apply below_drew1 | refine below_set ?_ GE441.out | refine below_set ?_ GE442.out) | exact HB.out))) : w.heap.size ≤ gb448)); have n6_ := Aside0.mk ((by rw [hg]; exact (below_size (by repeat (first | (with_reducible first | exact HB.out | apply below_alloc | apply pw_below_drewN | apply below_drew1 | refine below_set ?_ GE441.out | refine below_set ?_ GE442.out) | exact HB.out))) : w.heap.size ≤ gb448)); have n7_ := Aside0.mk ((by rw [hg]; exact Nat.ne_of_lt (blk_lt (g := gb441) (o := .cells #[.slice A0_0 l0_0.length c0_0] 25 (0, 0)) (by (with_reducible repeat (first | refine blk_drewN ?_ _ | refine blk_drew ?_ | refine blk_alloc ?_ _)); exact BK441.out)) : gb441 ≠ gb448)); have n8_ := Aside0.mk ((by rw [hg]; exact Nat.ne_of_gt (blk_lt (g := gb441) (o := .cells #[.slice A0_0 l0_0.length c0_0] 25 (0, 0)) (by (with_reducible repeat (first | refine blk_drewN ?_ _ | refine blk_drew ?_ | refine blk_alloc ?_ _)); exact BK441.out)) : gb448 ≠ gb441)); have n9_ := Aside0.mk ((by rw [hg]; exact Nat.ne_of_lt (blk_lt (g := gb442) (o := .cells #[.slice A1_0 l1_0.length c1_0] 25 (0, 0)) (by (with_reducible repeat (first | refine blk_drewN ?_ _ | refine blk_drew ?_ | refine blk_alloc ?_ _)); exact BK442.out)) : gb442 ≠ gb448)); have n10_ := Aside0.mk ((by rw [hg]; exact Nat.ne_of_gt (blk_lt (g := gb442) (o := .cells #[.slice A1_0 l1_0.length c1_0] 25 (0, 0)) (by (with_reducible repeat (first | refine blk_drewN ?_ _ | refine blk_drew ?_ | refine blk_alloc ?_ _)); exact BK442.out)) : gb448 ≠ gb442)); clear HO447; clear BK441; clear BK442; clear HB; have HO447 := n0_; have BK441 := n1_; have BK442 := n2_; have HB := n3_; have BK448 := n4_; have GW448 := n5_; have GE448 := n6_; have NB441_448 := n7_; have NB448_441 := n8_; have NB442_448 := n9_; have NB448_442 := n10_; clear n0_ n1_ n2_ n3_ n4_ n5_ n6_ n7_ n8_ n9_ n10_; clear hb hbox hg; obtain ⟨Ao41, co41, eo41⟩ := Kd.S_slice HO447.out; subst eo41; have hnb42 := NB448_441.out; have hnc42 := NB441_448.out; have hnb43 := NB448_442.out; have hnc43 := NB442_448.out; have hcz44_0 : w40.cell? ⟨gb448, 0, none⟩ = some (.slice none 0 0) := (blk_cell BK448.out 0).trans rfl; have hfz44_0 := blk_frozen BK448.out 0) | ((with_reducible refine gate_callee (f := 14) rfl ?_); refine goesL_ (some 47) rfl rfl Try.func14 (by kernel_rfl) rfl #[.agg #[.slice Ao41 t445.length co41]] rfl (by (try simp only [List.map_toArray, List.map_cons, List.map_nil]); first | done | rfl | (simp only [List.length_drop, List.length_take]; rfl)) ?_; (with_reducible refine (dag_Order.calls kj3 _ _ t445 t449 t452 _ ?side1 ?side2 A26.out).mono ?_); (case side1 => refine (Kd.S_reads' (e := 40) (base := w.heap.size) (ok := fun k_ => True) (n := t445.length) (c := co41) ?_).2.2; exact (by (with_reducible repeat (first | apply Kd.S_alloc | apply Kd.S_drewN | apply Kd.S_drew)); exact (Kd.S_mono (Kd.S_far (p := ⟨gb448, 0, none⟩) (Kd.S_types HO447.out BK448.out (by decide)) (fun _ hk => hk.2) (.slice Ao41 t445.length co41)) (fun _ h_ => h_.1)))); (case side2 => exact (Kd.S_reads' HO447.out).2.1); rintro e w45 ⟨v450, rfl, ho0, hb⟩; refine ⟨_, rfl, ?_⟩; have n0_ := Aside0.mk (Kd.S_elder' (by (with_reducible repeat (first | apply Kd.S_alloc | apply Kd.S_drewN | apply Kd.S_drew)); exact (Kd.S_mono (Kd.S_far (p := ⟨gb448, 0, none⟩) (Kd.S_types HO447.out BK448.out (by decide)) (fun _ hk => hk.2) (.slice Ao41 t445.length co41)) (fun _ h_ => h_.1))) (Kd.R_base ho0) hb); have n1_ := Aside0.mk (Kd.R_lower ho0 (below_size (by repeat (first | (with_reducible first | exact HB.out | apply below_alloc | apply pw_below_drewN | apply below_drew1 | refine below_set ?_ GE441.out | refine below_set ?_ GE442.out | refine below_set ?_ GE448.out) | exact HB.out)))); have n2_ := Aside0.mk (blk_below (g := gb441) (o := .cells #[.slice A0_0 l0_0.length c0_0] 25 (0, 0)) (by (with_reducible repeat (first | refine blk_drewN ?_ _ | refine blk_drew ?_ | refine blk_alloc ?_ _)); refine blk_far ?_ NB441_448.out _; (with_reducible repeat (first | refine blk_drewN ?_ _ | refine blk_drew ?_ | refine blk_alloc ?_ _)); exact BK441.out) hb); have n3_ := Aside0.mk (blk_below (g := gb442) (o := .cells #[.slice A1_0 l1_0.length c1_0] 25 (0, 0)) (by (with_reducible repeat (first | refine blk_drewN ?_ _ | refine blk_drew ?_ | refine blk_alloc ?_ _)); refine blk_far ?_ NB442_448.out _; (with_reducible repeat (first | refine blk_drewN ?_ _ | refine blk_drew ?_ | refine blk_alloc ?_ _)); exact BK442.out) hb); have n4_ := Aside0.mk (blk_below (g := gb448) (o := .cells #[.slice Ao41 t445.length co41] 25 (0, 0)) (by (with_reducible repeat (first | refine blk_drewN ?_ _ | refine blk_drew ?_ | refine blk_alloc ?_ _)); refine blk_put (cs := #[.slice none 0 0]) ?_ 0 _ rfl; (with_reducible repeat (first | refine blk_drewN ?_ _ | refine blk_drew ?_ | refine blk_alloc ?_ _)); exact BK448.out) hb); have n5_ := Aside0.mk (below_step (by repeat (first | (with_reducible first | exact HB.out | apply below_alloc | apply pw_below_drewN | apply below_drew1 | refine below_set ?_ GE441.out | refine below_set ?_ GE442.out | refine below_set ?_ GE448.out) | exact HB.out)) hb); clear HO447; clear BK441; clear BK442; clear BK448; clear HB; have HO447 := n0_; have HO451 := n1_; have BK441 := n2_; have BK442 := n3_; have BK448 := n4_; have HB := n5_; clear n0_ n1_ n2_ n3_ n4_ n5_; (try clear hb); (try clear hb2); (try clear hk); (try clear hi); (try clear ho0); have hcz46_0 : w45.cell? ⟨gb441, 0, none⟩ = some (.slice A0_0 l0_0.length c0_0) := (blk_cell BK441.out 0).trans rfl; have hfz46_0 := blk_frozen BK441.out 0) | ((with_reducible refine gate_callee (f := 19) rfl ?_); refine goesL_ (some 52) rfl rfl Try.func19 (by kernel_rfl) rfl #[.agg #[.slice A0_0 l0_0.length c0_0]] rfl (by (try simp only [List.map_toArray, List.map_cons, List.map_nil]); first | done | rfl | (simp only [List.length_drop, List.length_take]; rfl)) ?_; (with_reducible refine (millhandref23_Order.calls kj3 _ _ l0_0 t453 t456 _ ?side1 ?side2 A27.out).mono ?_); (case side1 => repeat (first | exact (Kd.C_below HR0_0.out HB.out) | (with_reducible refine Kd.C_alloc ?_ _) | (with_reducible refine Kd.C_drewN ?_ _) | (with_reducible refine Kd.C_drew ?_))); (case side2 => exact HC0_0.out); rintro e w47 ⟨v454, rfl, ho0, hb⟩; refine ⟨_, rfl, ?_⟩; have n0_ := Aside0.mk (Kd.S_elder' (by (with_reducible repeat (first | apply Kd.S_alloc | apply Kd.S_drewN | apply Kd.S_drew)); exact HO447.out) (Kd.R_base ho0) hb); have n1_ := Aside0.mk (Kd.R_elder' (by (with_reducible repeat (first | apply Kd.R_alloc | apply Kd.R_drewN | apply Kd.R_drew)); exact HO451.out) (Kd.R_base ho0) hb); have n2_ := Aside0.mk (Kd.R_lower (Kd.R_new' ho0 (Kd.R_lt (by (with_reducible repeat (first | apply Kd.R_alloc | apply Kd.R_drewN | apply Kd.R_drew)); exact HO451.out))) (below_size (by repeat (first | (with_reducible first | exact HB.out | apply below_alloc | apply pw_below_drewN | apply below_drew1 | refine below_set ?_ GE441.out | refine below_set ?_ GE442.out | refine below_set ?_ GE448.out) | exact HB.out)))); have n3_ := Aside0.mk (blk_below (g := gb441) (o := .cells #[.slice A0_0 l0_0.length c0_0] 25 (0, 0)) (by (with_reducible repeat (first | refine blk_drewN ?_ _ | refine blk_drew ?_ | refine blk_alloc ?_ _)); exact BK441.out) hb); have n4_ := Aside0.mk (blk_below (g := gb442) (o := .cells #[.slice A1_0 l1_0.length c1_0] 25 (0, 0)) (by (with_reducible repeat (first | refine blk_drewN ?_ _ | refine blk_drew ?_ | refine blk_alloc ?_ _)); exact BK442.out) hb); have n5_ := Aside0.mk (blk_below (g := gb448) (o := .cells #[.slice Ao41 t445.length co41] 25 (0, 0)) (by (with_reducible repeat (first | refine blk_drewN ?_ _ | refine blk_drew ?_ | refine blk_alloc ?_ _)); exact BK448.out) hb); have n6_ := Aside0.mk (below_step (by repeat (first | (with_reducible first | exact HB.out | apply below_alloc | apply pw_below_drewN | apply below_drew1 | refine below_set ?_ GE441.out | refine below_set ?_ GE442.out | refine below_set ?_ GE448.out) | exact HB.out)) hb); clear HO447; clear HO451; clear BK441; clear BK442; clear BK448; clear HB; have HO447 := n0_; have HO451 := n1_; have HO455 := n2_; have BK441 := n3_; have BK442 := n4_; have BK448 := n5_; have HB := n6_; clear n0_ n1_ n2_ n3_ n4_ n5_ n6_; (try clear hb); (try clear hb2); (try clear hk); (try clear hi); (try clear ho0); have hcz48_0 : w47.cell? ⟨gb448, 0, none⟩ = some (.slice Ao41 t445.length co41) := (blk_cell BK448.out 0).trans rfl; have hfz48_0 := blk_frozen BK448.out 0) | ((with_reducible refine gate_callee (f := 20) rfl ?_); refine goesL_ (some 57) rfl rfl Try.func20 (by kernel_rfl) rfl #[.agg #[.slice Ao41 t445.length co41]] rfl (by (try simp only [List.map_toArray, List.map_cons, List.map_nil]); first | done | rfl | (simp only [List.length_drop, List.length_take]; rfl)) ?_; (with_reducible refine (dag_Roots.calls kj3 _ _ t445 t457 t460 _ ?side1 ?side2 A28.out).mono ?_); (case side1 => repeat (first | exact (Kd.S_reads' HO447.out).2.2 | (with_reducible refine Kd.C_alloc ?_ _) | (with_reducible refine Kd.C_drewN ?_ _) | (with_reducible refine Kd.C_drew ?_))); (case side2 => exact (Kd.S_reads' HO447.out).2.1); rintro e w49 ⟨v458, rfl, ho0, hb⟩; refine ⟨_, rfl, ?_⟩; have n0_ := Aside0.mk (Kd.S_elder' (by (with_reducible repeat (first | apply Kd.S_alloc | apply Kd.S_drewN | apply Kd.S_drew)); exact HO447.out) (Kd.R_base ho0) hb); have n1_ := Aside0.mk (Kd.R_elder' (by (with_reducible repeat (first | apply Kd.R_alloc | apply Kd.R_drewN | apply Kd.R_drew)); exact HO451.out) (Kd.R_base ho0) hb); have n2_ := Aside0.mk (Kd.R_elder' (by (with_reducible repeat (first | apply Kd.R_alloc | apply Kd.R_drewN | apply Kd.R_drew)); exact HO455.out) (Kd.R_base ho0) hb); have n3_ := Aside0.mk (Kd.R_lower (Kd.R_new' (Kd.R_new' ho0 (Kd.R_lt (by (with_reducible repeat (first | apply Kd.R_alloc | apply Kd.R_drewN | apply Kd.R_drew)); exact HO451.out))) (Kd.R_lt (by (with_reducible repeat (first | apply Kd.R_alloc | apply Kd.R_drewN | apply Kd.R_drew)); exact HO455.out))) (below_size (by repeat (first | (with_reducible first | exact HB.out | apply below_alloc | apply pw_below_drewN | apply below_drew1 | refine below_set ?_ GE441.out | refine below_set ?_ GE442.out | refine below_set ?_ GE448.out) | exact HB.out)))); have n4_ := Aside0.mk (blk_below (g := gb441) (o := .cells #[.slice A0_0 l0_0.length c0_0] 25 (0, 0)) (by (with_reducible repeat (first | refine blk_drewN ?_ _ | refine blk_drew ?_ | refine blk_alloc ?_ _)); exact BK441.out) hb); have n5_ := Aside0.mk (blk_below (g := gb442) (o := .cells #[.slice A1_0 l1_0.length c1_0] 25 (0, 0)) (by (with_reducible repeat (first | refine blk_drewN ?_ _ | refine blk_drew ?_ | refine blk_alloc ?_ _)); exact BK442.out) hb); have n6_ := Aside0.mk (blk_below (g := gb448) (o := .cells #[.slice Ao41 t445.length co41] 25 (0, 0)) (by (with_reducible repeat (first | refine blk_drewN ?_ _ | refine blk_drew ?_ | refine blk_alloc ?_ _)); exact BK448.out) hb); have n7_ := Aside0.mk (below_step (by repeat (first | (with_reducible first | exact HB.out | apply below_alloc | apply pw_below_drewN | apply below_drew1 | refine below_set ?_ GE441.out | refine below_set ?_ GE442.out | refine below_set ?_ GE448.out) | exact HB.out)) hb); clear HO447; clear HO451; clear HO455; clear BK441; clear BK442; clear BK448; clear HB; have HO447 := n0_; have HO451 := n1_; have HO455 := n2_; have HO459 := n3_; have BK441 := n4_; have BK442 := n5_; have BK448 := n6_; have HB := n7_; clear n0_ n1_ n2_ n3_ n4_ n5_ n6_ n7_; (try clear hb); (try clear hb2); (try clear hk); (try clear hi); (try clear ho0); have hcz50_0 : w49.cell? ⟨gb441, 0, none⟩ = some (.slice A0_0 l0_0.length c0_0) := (blk_cell BK441.out 0).trans rfl; have hfz50_0 := blk_frozen BK441.out 0) | ((with_reducible refine gate_callee (f := 21) rfl ?_); refine goesL_ (some 62) rfl rfl Try.func21 (by kernel_rfl) rfl #[.agg #[.slice A0_0 l0_0.length c0_0]] rfl (by (try simp only [List.map_toArray, List.map_cons, List.map_nil]); first | done | rfl | (simp only [List.length_drop, List.length_take]; rfl)) ?_; (with_reducible refine (millhandref23_Roots.calls kj3 _ _ l0_0 t461 t464 _ ?side1 ?side2 A29.out).mono ?_); (case side1 => repeat (first | exact (Kd.C_below HR0_0.out HB.out) | (with_reducible refine Kd.C_alloc ?_ _) | (with_reducible refine Kd.C_drewN ?_ _) | (with_reducible refine Kd.C_drew ?_))); (case side2 => exact HC0_0.out); rintro e w51 ⟨v462, rfl, ho0, hb⟩; refine ⟨_, rfl, ?_⟩; have n0_ := Aside0.mk (Kd.S_elder' (by (with_reducible repeat (first | apply Kd.S_alloc | apply Kd.S_drewN | apply Kd.S_drew)); exact HO447.out) (Kd.R_base ho0) hb); have n1_ := Aside0.mk (Kd.R_elder' (by (with_reducible repeat (first | apply Kd.R_alloc | apply Kd.R_drewN | apply Kd.R_drew)); exact HO451.out) (Kd.R_base ho0) hb); have n2_ := Aside0.mk (Kd.R_elder' (by (with_reducible repeat (first | apply Kd.R_alloc | apply Kd.R_drewN | apply Kd.R_drew)); exact HO455.out) (Kd.R_base ho0) hb); have n3_ := Aside0.mk (Kd.R_elder' (by (with_reducible repeat (first | apply Kd.R_alloc | apply Kd.R_drewN | apply Kd.R_drew)); exact HO459.out) (Kd.R_base ho0) hb); have n4_ := Aside0.mk (Kd.R_lower (Kd.R_new' (Kd.R_new' (Kd.R_new' ho0 (Kd.R_lt (by (with_reducible repeat (first | apply Kd.R_alloc | apply Kd.R_drewN | apply Kd.R_drew)); exact HO451.out))) (Kd.R_lt (by (with_reducible repeat (first | apply Kd.R_alloc | apply Kd.R_drewN | apply Kd.R_drew)); exact HO455.out))) (Kd.R_lt (by (with_reducible repeat (first | apply Kd.R_alloc | apply Kd.R_drewN | apply Kd.R_drew)); exact HO459.out))) (below_size (by repeat (first | (with_reducible first | exact HB.out | apply below_alloc | apply pw_below_drewN | apply below_drew1 | refine below_set ?_ GE441.out | refine below_set ?_ GE442.out | refine below_set ?_ GE448.out) | exact HB.out)))); have n5_ := Aside0.mk (blk_below (g := gb441) (o := .cells #[.slice A0_0 l0_0.length c0_0] 25 (0, 0)) (by (with_reducible repeat (first | refine blk_drewN ?_ _ | refine blk_drew ?_ | refine blk_alloc ?_ _)); exact BK441.out) hb); have n6_ := Aside0.mk (blk_below (g := gb442) (o := .cells #[.slice A1_0 l1_0.length c1_0] 25 (0, 0)) (by (with_reducible repeat (first | refine blk_drewN ?_ _ | refine blk_drew ?_ | refine blk_alloc ?_ _)); exact BK442.out) hb); have n7_ := Aside0.mk (blk_below (g := gb448) (o := .cells #[.slice Ao41 t445.length co41] 25 (0, 0)) (by (with_reducible repeat (first | refine blk_drewN ?_ _ | refine blk_drew ?_ | refine blk_alloc ?_ _)); exact BK448.out) hb); have n8_ := Aside0.mk (below_step (by repeat (first | (with_reducible first | exact HB.out | apply below_alloc | apply pw_below_drewN | apply below_drew1 | refine below_set ?_ GE441.out | refine below_set ?_ GE442.out | refine below_set ?_ GE448.out) | exact HB.out)) hb); clear HO447; clear HO451; clear HO455; clear HO459; clear BK441; clear BK442; clear BK448; clear HB; have HO447 := n0_; have HO451 := n1_; have HO455 := n2_; have HO459 := n3_; have HO463 := n4_; have BK441 := n5_; have BK442 := n6_; have BK448 := n7_; have HB := n8_; clear n0_ n1_ n2_ n3_ n4_ n5_ n6_ n7_ n8_; (try clear hb); (try clear hb2); (try clear hk); (try clear hi); (try clear ho0); have hcz52_0 : w51.cell? ⟨gb448, 0, none⟩ = some (.slice Ao41 t445.length co41) := (blk_cell BK448.out 0).trans rfl; have hfz52_0 := blk_frozen BK448.out 0) | ((with_reducible refine gate_callee (f := 17) rfl ?_); refine goesL_ (some 68) rfl rfl Try.func17 (by kernel_rfl) rfl #[.agg #[.slice Ao41 t445.length co41], .slice A2 l2.length c2] rfl (by (try simp only [List.map_toArray, List.map_cons, List.map_nil]); first | done | rfl | (simp only [List.length_drop, List.length_take]; rfl)) ?_; (with_reducible refine (dag_Ready.calls kj3 _ _ t445 _ _ l2 t465 t468 _ ?side1 ?side2 ?side3 ?side4 A30.out).mono ?_); (case side1 => repeat (first | exact (Kd.S_reads' HO447.out).2.2 | (with_reducible refine Kd.C_alloc ?_ _) | (with_reducible refine Kd.C_drewN ?_ _) | (with_reducible refine Kd.C_drew ?_))); (case side2 => exact (Kd.S_reads' HO447.out).2.1); (case side3 => repeat (first | exact (Kd.C_below HR2.out HB.out) | (with_reducible refine Kd.C_alloc ?_ _) | (with_reducible refine Kd.C_drewN ?_ _) | (with_reducible refine Kd.C_drew ?_))); (case side4 => exact HC2.out); rintro e w53 ⟨v466, rfl, ho0, hb⟩; refine ⟨_, rfl, ?_⟩; have n0_ := Aside0.mk (Kd.S_elder' (by (with_reducible repeat (first | apply Kd.S_alloc | apply Kd.S_drewN | apply Kd.S_drew)); exact HO447.out) (Kd.R_base ho0) hb); have n1_ := Aside0.mk (Kd.R_elder' (by (with_reducible repeat (first | apply Kd.R_alloc | apply Kd.R_drewN | apply Kd.R_drew)); exact HO451.out) (Kd.R_base ho0) hb); have n2_ := Aside0.mk (Kd.R_elder' (by (with_reducible repeat (first | apply Kd.R_alloc | apply Kd.R_drewN | apply Kd.R_drew)); exact HO455.out) (Kd.R_base ho0) hb); have n3_ := Aside0.mk (Kd.R_elder' (by (with_reducible repeat (first | apply Kd.R_alloc | apply Kd.R_drewN | apply Kd.R_drew)); exact HO459.out) (Kd.R_base ho0) hb); have n4_ := Aside0.mk (Kd.R_elder' (by (with_reducible repeat (first | apply Kd.R_alloc | apply Kd.R_drewN | apply Kd.R_drew)); exact HO463.out) (Kd.R_base ho0) hb); have n5_ := Aside0.mk (Kd.R_lower (Kd.R_new' (Kd.R_new' (Kd.R_new' (Kd.R_new' ho0 (Kd.R_lt (by (with_reducible repeat (first | apply Kd.R_alloc | apply Kd.R_drewN | apply Kd.R_drew)); exact HO451.out))) (Kd.R_lt (by (with_reducible repeat (first | apply Kd.R_alloc | apply Kd.R_drewN | apply Kd.R_drew)); exact HO455.out))) (Kd.R_lt (by (with_reducible repeat (first | apply Kd.R_alloc | apply Kd.R_drewN | apply Kd.R_drew)); exact HO459.out))) (Kd.R_lt (by (with_reducible repeat (first | apply Kd.R_alloc | apply Kd.R_drewN | apply Kd.R_drew)); exact HO463.out))) (below_size (by repeat (first | (with_reducible first | exact HB.out | apply below_alloc | apply pw_below_drewN | apply below_drew1 | refine below_set ?_ GE441.out | refine below_set ?_ GE442.out | refine below_set ?_ GE448.out) | exact HB.out)))); have n6_ := Aside0.mk (blk_below (g := gb441) (o := .cells #[.slice A0_0 l0_0.length c0_0] 25 (0, 0)) (by (with_reducible repeat (first | refine blk_drewN ?_ _ | refine blk_drew ?_ | refine blk_alloc ?_ _)); exact BK441.out) hb); have n7_ := Aside0.mk (blk_below (g := gb442) (o := .cells #[.slice A1_0 l1_0.length c1_0] 25 (0, 0)) (by (with_reducible repeat (first | refine blk_drewN ?_ _ | refine blk_drew ?_ | refine blk_alloc ?_ _)); exact BK442.out) hb); have n8_ := Aside0.mk (blk_below (g := gb448) (o := .cells #[.slice Ao41 t445.length co41] 25 (0, 0)) (by (with_reducible repeat (first | refine blk_drewN ?_ _ | refine blk_drew ?_ | refine blk_alloc ?_ _)); exact BK448.out) hb); have n9_ := Aside0.mk (below_step (by repeat (first | (with_reducible first | exact HB.out | apply below_alloc | apply pw_below_drewN | apply below_drew1 | refine below_set ?_ GE441.out | refine below_set ?_ GE442.out | refine below_set ?_ GE448.out) | exact HB.out)) hb); clear HO447; clear HO451; clear HO455; clear HO459; clear HO463; clear BK441; clear BK442; clear BK448; clear HB; have HO447 := n0_; have HO451 := n1_; have HO455 := n2_; have HO459 := n3_; have HO463 := n4_; have HO467 := n5_; have BK441 := n6_; have BK442 := n7_; have BK448 := n8_; have HB := n9_; clear n0_ n1_ n2_ n3_ n4_ n5_ n6_ n7_ n8_ n9_; (try clear hb); (try clear hb2); (try clear hk); (try clear hi); (try clear ho0); have hcz54_0 : w53.cell? ⟨gb441, 0, none⟩ = some (.slice A0_0 l0_0.length c0_0) := (blk_cell BK441.out 0).trans rfl; have hfz54_0 := blk_frozen BK441.out 0) | ((with_reducible refine gate_callee (f := 22) rfl ?_); refine goesL_ (some 74) rfl rfl Try.func22 (by kernel_rfl) rfl #[.agg #[.slice A0_0 l0_0.length c0_0], .slice A2 l2.length c2] rfl (by (try simp only [List.map_toArray, List.map_cons, List.map_nil]); first | done | rfl | (simp only [List.length_drop, List.length_take]; rfl)) ?_; (with_reducible refine (millhandref23_Ready.calls kj3 _ _ l0_0 _ _ l2 t469 t472 _ ?side1 ?side2 ?side3 ?side4 A31.out).mono ?_); (case side1 => repeat (first | exact (Kd.C_below HR0_0.out HB.out) | (with_reducible refine Kd.C_alloc ?_ _) | (with_reducible refine Kd.C_drewN ?_ _) | (with_reducible refine Kd.C_drew ?_))); (case side2 => exact HC0_0.out); (case side3 => repeat (first | exact (Kd.C_below HR2.out HB.out) | (with_reducible refine Kd.C_alloc ?_ _) | (with_reducible refine Kd.C_drewN ?_ _) | (with_reducible refine Kd.C_drew ?_))); (case side4 => exact HC2.out); rintro e w55 ⟨v470, rfl, ho0, hb⟩; refine ⟨_, rfl, ?_⟩; have n0_ := Aside0.mk (Kd.S_elder' (by (with_reducible repeat (first | apply Kd.S_alloc | apply Kd.S_drewN | apply Kd.S_drew)); exact HO447.out) (Kd.R_base ho0) hb); have n1_ := Aside0.mk (Kd.R_elder' (by (with_reducible repeat (first | apply Kd.R_alloc | apply Kd.R_drewN | apply Kd.R_drew)); exact HO451.out) (Kd.R_base ho0) hb); have n2_ := Aside0.mk (Kd.R_elder' (by (with_reducible repeat (first | apply Kd.R_alloc | apply Kd.R_drewN | apply Kd.R_drew)); exact HO455.out) (Kd.R_base ho0) hb); have n3_ := Aside0.mk (Kd.R_elder' (by (with_reducible repeat (first | apply Kd.R_alloc | apply Kd.R_drewN | apply Kd.R_drew)); exact HO459.out) (Kd.R_base ho0) hb); have n4_ := Aside0.mk (Kd.R_elder' (by (with_reducible repeat (first | apply Kd.R_alloc | apply Kd.R_drewN | apply Kd.R_drew)); exact HO463.out) (Kd.R_base ho0) hb); have n5_ := Aside0.mk (Kd.R_elder' (by (with_reducible repeat (first | apply Kd.R_alloc | apply Kd.R_drewN | apply Kd.R_drew)); exact HO467.out) (Kd.R_base ho0) hb); have n6_ := Aside0.mk (Kd.R_lower (Kd.R_new' (Kd.R_new' (Kd.R_new' (Kd.R_new' (Kd.R_new' ho0 (Kd.R_lt (by (with_reducible repeat (first | apply Kd.R_alloc | apply Kd.R_drewN | apply Kd.R_drew)); exact HO451.out))) (Kd.R_lt (by (with_reducible repeat (first | apply Kd.R_alloc | apply Kd.R_drewN | apply Kd.R_drew)); exact HO455.out))) (Kd.R_lt (by (with_reducible repeat (first | apply Kd.R_alloc | apply Kd.R_drewN | apply Kd.R_drew)); exact HO459.out))) (Kd.R_lt (by (with_reducible repeat (first | apply Kd.R_alloc | apply Kd.R_drewN | apply Kd.R_drew)); exact HO463.out))) (Kd.R_lt (by (with_reducible repeat (first | apply Kd.R_alloc | apply Kd.R_drewN | apply Kd.R_drew)); exact HO467.out))) (below_size (by repeat (first | (with_reducible first | exact HB.out | apply below_alloc | apply pw_below_drewN | apply below_drew1 | refine below_set ?_ GE441.out | refine below_set ?_ GE442.out | refine below_set ?_ GE448.out) | exact HB.out)))); have n7_ := Aside0.mk (blk_below (g := gb441) (o := .cells #[.slice A0_0 l0_0.length c0_0] 25 (0, 0)) (by (with_reducible repeat (first | refine blk_drewN ?_ _ | refine blk_drew ?_ | refine blk_alloc ?_ _)); exact BK441.out) hb); have n8_ := Aside0.mk (blk_below (g := gb442) (o := .cells #[.slice A1_0 l1_0.length c1_0] 25 (0, 0)) (by (with_reducible repeat (first | refine blk_drewN ?_ _ | refine blk_drew ?_ | refine blk_alloc ?_ _)); exact BK442.out) hb); have n9_ := Aside0.mk (blk_below (g := gb448) (o := .cells #[.slice Ao41 t445.length co41] 25 (0, 0)) (by (with_reducible repeat (first | refine blk_drewN ?_ _ | refine blk_drew ?_ | refine blk_alloc ?_ _)); exact BK448.out) hb); have n10_ := Aside0.mk (below_step (by repeat (first | (with_reducible first | exact HB.out | apply below_alloc | apply pw_below_drewN | apply below_drew1 | refine below_set ?_ GE441.out | refine below_set ?_ GE442.out | refine below_set ?_ GE448.out) | exact HB.out)) hb); clear HO447; clear HO451; clear HO455; clear HO459; clear HO463; clear HO467; clear BK441; clear BK442; clear BK448; clear HB; have HO447 := n0_; have HO451 := n1_; have HO455 := n2_; have HO459 := n3_; have HO463 := n4_; have HO467 := n5_; have HO471 := n6_; have BK441 := n7_; have BK442 := n8_; have BK448 := n9_; have HB := n10_; clear n0_ n1_ n2_ n3_ n4_ n5_ n6_ n7_ n8_ n9_ n10_; (try clear hb); (try clear hb2); (try clear hk); (try clear hi); (try clear ho0); have hcz56_0 : w55.cell? ⟨gb448, 0, none⟩ = some (.slice Ao41 t445.length co41) := (blk_cell BK448.out 0).trans rfl; have hfz56_0 := blk_frozen BK448.out 0) | ((with_reducible refine gate_callee (f := 15) rfl ?_); refine goesL_ (some 79) rfl rfl Try.func15 (by kernel_rfl) rfl #[.agg #[.slice Ao41 t445.length co41]] rfl (by (try simp only [List.map_toArray, List.map_cons, List.map_nil]); first | done | rfl | (simp only [List.length_drop, List.length_take]; rfl)) ?_; (with_reducible refine (dag_Depth.calls kj3 _ _ t445 t473 t476 _ ?side1 ?side2 A32.out).mono ?_); (case side1 => repeat (first | exact (Kd.S_reads' HO447.out).2.2 | (with_reducible refine Kd.C_alloc ?_ _) | (with_reducible refine Kd.C_drewN ?_ _) | (with_reducible refine Kd.C_drew ?_))); (case side2 => exact (Kd.S_reads' HO447.out).2.1); rintro e w57 ⟨v474, rfl, ho0, hb⟩; refine ⟨_, rfl, ?_⟩; have n0_ := Aside0.mk (Kd.S_elder' (by (with_reducible repeat (first | apply Kd.S_alloc | apply Kd.S_drewN | apply Kd.S_drew)); exact HO447.out) (Kd.R_base ho0) hb); have n1_ := Aside0.mk (Kd.R_elder' (by (with_reducible repeat (first | apply Kd.R_alloc | apply Kd.R_drewN | apply Kd.R_drew)); exact HO451.out) (Kd.R_base ho0) hb); have n2_ := Aside0.mk (Kd.R_elder' (by (with_reducible repeat (first | apply Kd.R_alloc | apply Kd.R_drewN | apply Kd.R_drew)); exact HO455.out) (Kd.R_base ho0) hb); have n3_ := Aside0.mk (Kd.R_elder' (by (with_reducible repeat (first | apply Kd.R_alloc | apply Kd.R_drewN | apply Kd.R_drew)); exact HO459.out) (Kd.R_base ho0) hb); have n4_ := Aside0.mk (Kd.R_elder' (by (with_reducible repeat (first | apply Kd.R_alloc | apply Kd.R_drewN | apply Kd.R_drew)); exact HO463.out) (Kd.R_base ho0) hb); have n5_ := Aside0.mk (Kd.R_elder' (by (with_reducible repeat (first | apply Kd.R_alloc | apply Kd.R_drewN | apply Kd.R_drew)); exact HO467.out) (Kd.R_base ho0) hb); have n6_ := Aside0.mk (Kd.R_elder' (by (with_reducible repeat (first | apply Kd.R_alloc | apply Kd.R_drewN | apply Kd.R_drew)); exact HO471.out) (Kd.R_base ho0) hb); have n7_ := Aside0.mk (Kd.R_lower (Kd.R_new' (Kd.R_new' (Kd.R_new' (Kd.R_new' (Kd.R_new' (Kd.R_new' ho0 (Kd.R_lt (by (with_reducible repeat (first | apply Kd.R_alloc | apply Kd.R_drewN | apply Kd.R_drew)); exact HO451.out))) (Kd.R_lt (by (with_reducible repeat (first | apply Kd.R_alloc | apply Kd.R_drewN | apply Kd.R_drew)); exact HO455.out))) (Kd.R_lt (by (with_reducible repeat (first | apply Kd.R_alloc | apply Kd.R_drewN | apply Kd.R_drew)); exact HO459.out))) (Kd.R_lt (by (with_reducible repeat (first | apply Kd.R_alloc | apply Kd.R_drewN | apply Kd.R_drew)); exact HO463.out))) (Kd.R_lt (by (with_reducible repeat (first | apply Kd.R_alloc | apply Kd.R_drewN | apply Kd.R_drew)); exact HO467.out))) (Kd.R_lt (by (with_reducible repeat (first | apply Kd.R_alloc | apply Kd.R_drewN | apply Kd.R_drew)); exact HO471.out))) (below_size (by repeat (first | (with_reducible first | exact HB.out | apply below_alloc | apply pw_below_drewN | apply below_drew1 | refine below_set ?_ GE441.out | refine below_set ?_ GE442.out | refine below_set ?_ GE448.out) | exact HB.out)))); have n8_ := Aside0.mk (blk_below (g := gb441) (o := .cells #[.slice A0_0 l0_0.length c0_0] 25 (0, 0)) (by (with_reducible repeat (first | refine blk_drewN ?_ _ | refine blk_drew ?_ | refine blk_alloc ?_ _)); exact BK441.out) hb); have n9_ := Aside0.mk (blk_below (g := gb442) (o := .cells #[.slice A1_0 l1_0.length c1_0] 25 (0, 0)) (by (with_reducible repeat (first | refine blk_drewN ?_ _ | refine blk_drew ?_ | refine blk_alloc ?_ _)); exact BK442.out) hb); have n10_ := Aside0.mk (blk_below (g := gb448) (o := .cells #[.slice Ao41 t445.length co41] 25 (0, 0)) (by (with_reducible repeat (first | refine blk_drewN ?_ _ | refine blk_drew ?_ | refine blk_alloc ?_ _)); exact BK448.out) hb); have n11_ := Aside0.mk (below_step (by repeat (first | (with_reducible first | exact HB.out | apply below_alloc | apply pw_below_drewN | apply below_drew1 | refine below_set ?_ GE441.out | refine below_set ?_ GE442.out | refine below_set ?_ GE448.out) | exact HB.out)) hb); clear HO447; clear HO451; clear HO455; clear HO459; clear HO463; clear HO467; clear HO471; clear BK441; clear BK442; clear BK448; clear HB; have HO447 := n0_; have HO451 := n1_; have HO455 := n2_; have HO459 := n3_; have HO463 := n4_; have HO467 := n5_; have HO471 := n6_; have HO475 := n7_; have BK441 := n8_; have BK442 := n9_; have BK448 := n10_; have HB := n11_; clear n0_ n1_ n2_ n3_ n4_ n5_ n6_ n7_ n8_ n9_ n10_ n11_; (try clear hb); (try clear hb2); (try clear hk); (try clear hi); (try clear ho0); have hcz58_0 : w57.cell? ⟨gb441, 0, none⟩ = some (.slice A0_0 l0_0.length c0_0) := (blk_cell BK441.out 0).trans rfl; have hfz58_0 := blk_frozen BK441.out 0) | ((with_reducible refine gate_callee (f := 23) rfl ?_); refine goesL_ (some 84) rfl rfl Try.func23 (by kernel_rfl) rfl #[.agg #[.slice A0_0 l0_0.length c0_0]] rfl (by (try simp only [List.map_toArray, List.map_cons, List.map_nil]); first | done | rfl | (simp only [List.length_drop, List.length_take]; rfl)) ?_; (with_reducible refine (millhandref23_Depth.calls kj3 _ _ l0_0 t477 t480 _ ?side1 ?side2 A33.out).mono ?_); (case side1 => repeat (first | exact (Kd.C_below HR0_0.out HB.out) | (with_reducible refine Kd.C_alloc ?_ _) | (with_reducible refine Kd.C_drewN ?_ _) | (with_reducible refine Kd.C_drew ?_))); (case side2 => exact HC0_0.out); rintro e w59 ⟨v478, rfl, ho0, hb⟩; refine ⟨_, rfl, ?_⟩; have n0_ := Aside0.mk (Kd.S_elder' (by (with_reducible repeat (first | apply Kd.S_alloc | apply Kd.S_drewN | apply Kd.S_drew)); exact HO447.out) (Kd.R_base ho0) hb); have n1_ := Aside0.mk (Kd.R_elder' (by (with_reducible repeat (first | apply Kd.R_alloc | apply Kd.R_drewN | apply Kd.R_drew)); exact HO451.out) (Kd.R_base ho0) hb); have n2_ := Aside0.mk (Kd.R_elder' (by (with_reducible repeat (first | apply Kd.R_alloc | apply Kd.R_drewN | apply Kd.R_drew)); exact HO455.out) (Kd.R_base ho0) hb); have n3_ := Aside0.mk (Kd.R_elder' (by (with_reducible repeat (first | apply Kd.R_alloc | apply Kd.R_drewN | apply Kd.R_drew)); exact HO459.out) (Kd.R_base ho0) hb); have n4_ := Aside0.mk (Kd.R_elder' (by (with_reducible repeat (first | apply Kd.R_alloc | apply Kd.R_drewN | apply Kd.R_drew)); exact HO463.out) (Kd.R_base ho0) hb); have n5_ := Aside0.mk (Kd.R_elder' (by (with_reducible repeat (first | apply Kd.R_alloc | apply Kd.R_drewN | apply Kd.R_drew)); exact HO467.out) (Kd.R_base ho0) hb); have n6_ := Aside0.mk (Kd.R_elder' (by (with_reducible repeat (first | apply Kd.R_alloc | apply Kd.R_drewN | apply Kd.R_drew)); exact HO471.out) (Kd.R_base ho0) hb); have n7_ := Aside0.mk (Kd.R_elder' (by (with_reducible repeat (first | apply Kd.R_alloc | apply Kd.R_drewN | apply Kd.R_drew)); exact HO475.out) (Kd.R_base ho0) hb); have n8_ := Aside0.mk (Kd.R_lower (Kd.R_new' (Kd.R_new' (Kd.R_new' (Kd.R_new' (Kd.R_new' (Kd.R_new' (Kd.R_new' ho0 (Kd.R_lt (by (with_reducible repeat (first | apply Kd.R_alloc | apply Kd.R_drewN | apply Kd.R_drew)); exact HO451.out))) (Kd.R_lt (by (with_reducible repeat (first | apply Kd.R_alloc | apply Kd.R_drewN | apply Kd.R_drew)); exact HO455.out))) (Kd.R_lt (by (with_reducible repeat (first | apply Kd.R_alloc | apply Kd.R_drewN | apply Kd.R_drew)); exact HO459.out))) (Kd.R_lt (by (with_reducible repeat (first | apply Kd.R_alloc | apply Kd.R_drewN | apply Kd.R_drew)); exact HO463.out))) (Kd.R_lt (by (with_reducible repeat (first | apply Kd.R_alloc | apply Kd.R_drewN | apply Kd.R_drew)); exact HO467.out))) (Kd.R_lt (by (with_reducible repeat (first | apply Kd.R_alloc | apply Kd.R_drewN | apply Kd.R_drew)); exact HO471.out))) (Kd.R_lt (by (with_reducible repeat (first | apply Kd.R_alloc | apply Kd.R_drewN | apply Kd.R_drew)); exact HO475.out))) (below_size (by repeat (first | (with_reducible first | exact HB.out | apply below_alloc | apply pw_below_drewN | apply below_drew1 | refine below_set ?_ GE441.out | refine below_set ?_ GE442.out | refine below_set ?_ GE448.out) | exact HB.out)))); have n9_ := Aside0.mk (blk_below (g := gb441) (o := .cells #[.slice A0_0 l0_0.length c0_0] 25 (0, 0)) (by (with_reducible repeat (first | refine blk_drewN ?_ _ | refine blk_drew ?_ | refine blk_alloc ?_ _)); exact BK441.out) hb); have n10_ := Aside0.mk (blk_below (g := gb442) (o := .cells #[.slice A1_0 l1_0.length c1_0] 25 (0, 0)) (by (with_reducible repeat (first | refine blk_drewN ?_ _ | refine blk_drew ?_ | refine blk_alloc ?_ _)); exact BK442.out) hb); have n11_ := Aside0.mk (blk_below (g := gb448) (o := .cells #[.slice Ao41 t445.length co41] 25 (0, 0)) (by (with_reducible repeat (first | refine blk_drewN ?_ _ | refine blk_drew ?_ | refine blk_alloc ?_ _)); exact BK448.out) hb); have n12_ := Aside0.mk (below_step (by repeat (first | (with_reducible first | exact HB.out | apply below_alloc | apply pw_below_drewN | apply below_drew1 | refine below_set ?_ GE441.out | refine below_set ?_ GE442.out | refine below_set ?_ GE448.out) | exact HB.out)) hb); clear HO447; clear HO451; clear HO455; clear HO459; clear HO463; clear HO467; clear HO471; clear HO475; clear BK441; clear BK442; clear BK448; clear HB; have HO447 := n0_; have HO451 := n1_; have HO455 := n2_; have HO459 := n3_; have HO463 := n4_; have HO467 := n5_; have HO471 := n6_; have HO475 := n7_; have HO479 := n8_; have BK441 := n9_; have BK442 := n10_; have BK448 := n11_; have HB := n12_; clear n0_ n1_ n2_ n3_ n4_ n5_ n6_ n7_ n8_ n9_ n10_ n11_ n12_; (try clear hb); (try clear hb2); (try clear hk); (try clear hi); (try clear ho0); have hcz60_0 : w59.cell? ⟨gb448, 0, none⟩ = some (.slice Ao41 t445.length co41) := (blk_cell BK448.out 0).trans rfl; have hfz60_0 := blk_frozen BK448.out 0) | ((with_reducible refine gate_callee (f := 24) rfl ?_); refine goesL_ (some 89) rfl rfl Try.func24 (by kernel_rfl) rfl #[.agg #[.slice Ao41 t445.length co41]] rfl (by (try simp only [List.map_toArray, List.map_cons, List.map_nil]); first | done | rfl | (simp only [List.length_drop, List.length_take]; rfl)) ?_; (with_reducible refine (dag_Write.calls kj3 (fun k_ => (((((((((((True ∧ some k_ ≠ (v450 : Value).ownBlock) ∧ some k_ ≠ (v454 : Value).ownBlock) ∧ some k_ ≠ (v458 : Value).ownBlock) ∧ some k_ ≠ (v462 : Value).ownBlock) ∧ some k_ ≠ (v466 : Value).ownBlock) ∧ some k_ ≠ (v470 : Value).ownBlock) ∧ some k_ ≠ (v474 : Value).ownBlock) ∧ some k_ ≠ (v478 : Value).ownBlock) ∧ k_ ≠ gb441) ∧ k_ ≠ gb442) ∧ k_ ≠ gb448)) _ _ t445 t481 t484 _ ?side1 A34.out).mono ?_); (case side1 => exact Kd.S_V (Kd.S_types (Kd.S_types (Kd.S_types (HO447.out) BK441.out (by decide)) BK442.out (by decide)) BK448.out (by decide))); rintro e w61 ⟨v482, rfl, ho0, hb⟩; refine ⟨_, rfl, ?_⟩; have n0_ := Aside0.mk (Kd.S_below (by (with_reducible repeat (first | apply Kd.S_alloc | apply Kd.S_drewN | apply Kd.S_drew)); exact HO447.out) hb); have n1_ := Aside0.mk (Kd.R_below (by (with_reducible repeat (first | apply Kd.R_alloc | apply Kd.R_drewN | apply Kd.R_drew)); exact HO451.out) hb); have n2_ := Aside0.mk (Kd.R_below (by (with_reducible repeat (first | apply Kd.R_alloc | apply Kd.R_drewN | apply Kd.R_drew)); exact HO455.out) hb); have n3_ := Aside0.mk (Kd.R_below (by (with_reducible repeat (first | apply Kd.R_alloc | apply Kd.R_drewN | apply Kd.R_drew)); exact HO459.out) hb); have n4_ := Aside0.mk (Kd.R_below (by (with_reducible repeat (first | apply Kd.R_alloc | apply Kd.R_drewN | apply Kd.R_drew)); exact HO463.out) hb); have n5_ := Aside0.mk (Kd.R_below (by (with_reducible repeat (first | apply Kd.R_alloc | apply Kd.R_drewN | apply Kd.R_drew)); exact HO467.out) hb); have n6_ := Aside0.mk (Kd.R_below (by (with_reducible repeat (first | apply Kd.R_alloc | apply Kd.R_drewN | apply Kd.R_drew)); exact HO471.out) hb); have n7_ := Aside0.mk (Kd.R_below (by (with_reducible repeat (first | apply Kd.R_alloc | apply Kd.R_drewN | apply Kd.R_drew)); exact HO475.out) hb); have n8_ := Aside0.mk (Kd.R_below (by (with_reducible repeat (first | apply Kd.R_alloc | apply Kd.R_drewN | apply Kd.R_drew)); exact HO479.out) hb); have n9_ := Aside0.mk (Kd.R_lower (Kd.R_mono (ok' := fun k_ => True) ho0 (fun _ hk_ => trivial)) (below_size (by repeat (first | (with_reducible first | exact HB.out | apply below_alloc | apply pw_below_drewN | apply below_drew1 | refine below_set ?_ GE441.out | refine below_set ?_ GE442.out | refine below_set ?_ GE448.out) | exact HB.out)))); have n10_ := Aside0.mk (blk_below (g := gb441) (o := .cells #[.slice A0_0 l0_0.length c0_0] 25 (0, 0)) (by (with_reducible repeat (first | refine blk_drewN ?_ _ | refine blk_drew ?_ | refine blk_alloc ?_ _)); exact BK441.out) hb); have n11_ := Aside0.mk (blk_below (g := gb442) (o := .cells #[.slice A1_0 l1_0.length c1_0] 25 (0, 0)) (by (with_reducible repeat (first | refine blk_drewN ?_ _ | refine blk_drew ?_ | refine blk_alloc ?_ _)); exact BK442.out) hb); have n12_ := Aside0.mk (blk_below (g := gb448) (o := .cells #[.slice Ao41 t445.length co41] 25 (0, 0)) (by (with_reducible repeat (first | refine blk_drewN ?_ _ | refine blk_drew ?_ | refine blk_alloc ?_ _)); exact BK448.out) hb); have n13_ := Aside0.mk (below_step (by repeat (first | (with_reducible first | exact HB.out | apply below_alloc | apply pw_below_drewN | apply below_drew1 | refine below_set ?_ GE441.out | refine below_set ?_ GE442.out | refine below_set ?_ GE448.out) | exact HB.out)) hb); clear HO447; clear HO451; clear HO455; clear HO459; clear HO463; clear HO467; clear HO471; clear HO475; clear HO479; clear BK441; clear BK442; clear BK448; clear HB; have HO447 := n0_; have HO451 := n1_; have HO455 := n2_; have HO459 := n3_; have HO463 := n4_; have HO467 := n5_; have HO471 := n6_; have HO475 := n7_; have HO479 := n8_; have HO483 := n9_; have BK441 := n10_; have BK442 := n11_; have BK448 := n12_; have HB := n13_; clear n0_ n1_ n2_ n3_ n4_ n5_ n6_ n7_ n8_ n9_ n10_ n11_ n12_ n13_; (try clear hb); (try clear hb2); (try clear hk); (try clear hi); (try clear ho0); have hcz62_0 : w61.cell? ⟨gb441, 0, none⟩ = some (.slice A0_0 l0_0.length c0_0) := (blk_cell BK441.out 0).trans rfl; have hfz62_0 := blk_frozen BK441.out 0) | ((with_reducible refine gate_callee (f := 25) rfl ?_); refine goesL_ (some 94) rfl rfl Try.func25 (by kernel_rfl) rfl #[.agg #[.slice A0_0 l0_0.length c0_0]] rfl (by (try simp only [List.map_toArray, List.map_cons, List.map_nil]); first | done | rfl | (simp only [List.length_drop, List.length_take]; rfl)) ?_; (with_reducible refine (millhandref23_Write.calls kj3 _ _ l0_0 t485 t488 _ ?side1 ?side2 A35.out).mono ?_); (case side1 => repeat (first | exact (Kd.C_below HR0_0.out HB.out) | (with_reducible refine Kd.C_alloc ?_ _) | (with_reducible refine Kd.C_drewN ?_ _) | (with_reducible refine Kd.C_drew ?_))); (case side2 => exact HC0_0.out); rintro e w63 ⟨v486, rfl, ho0, hb⟩; refine ⟨_, rfl, ?_⟩; have n0_ := Aside0.mk (Kd.S_below (by (with_reducible repeat (first | apply Kd.S_alloc | apply Kd.S_drewN | apply Kd.S_drew)); exact HO447.out) hb); have n1_ := Aside0.mk (Kd.R_below (by (with_reducible repeat (first | apply Kd.R_alloc | apply Kd.R_drewN | apply Kd.R_drew)); exact HO451.out) hb); have n2_ := Aside0.mk (Kd.R_below (by (with_reducible repeat (first | apply Kd.R_alloc | apply Kd.R_drewN | apply Kd.R_drew)); exact HO455.out) hb); have n3_ := Aside0.mk (Kd.R_below (by (with_reducible repeat (first | apply Kd.R_alloc | apply Kd.R_drewN | apply Kd.R_drew)); exact HO459.out) hb); have n4_ := Aside0.mk (Kd.R_below (by (with_reducible repeat (first | apply Kd.R_alloc | apply Kd.R_drewN | apply Kd.R_drew)); exact HO463.out) hb); have n5_ := Aside0.mk (Kd.R_below (by (with_reducible repeat (first | apply Kd.R_alloc | apply Kd.R_drewN | apply Kd.R_drew)); exact HO467.out) hb); have n6_ := Aside0.mk (Kd.R_below (by (with_reducible repeat (first | apply Kd.R_alloc | apply Kd.R_drewN | apply Kd.R_drew)); exact HO471.out) hb); have n7_ := Aside0.mk (Kd.R_below (by (with_reducible repeat (first | apply Kd.R_alloc | apply Kd.R_drewN | apply Kd.R_drew)); exact HO475.out) hb); have n8_ := Aside0.mk (Kd.R_below (by (with_reducible repeat (first | apply Kd.R_alloc | apply Kd.R_drewN | apply Kd.R_drew)); exact HO479.out) hb); have n9_ := Aside0.mk (Kd.R_elder' (by (with_reducible repeat (first | apply Kd.R_alloc | apply Kd.R_drewN | apply Kd.R_drew)); exact HO483.out) (Kd.R_base ho0) hb); have n10_ := Aside0.mk (Kd.R_lower (Kd.R_new' ho0 (Kd.R_lt (by (with_reducible repeat (first | apply Kd.R_alloc | apply Kd.R_drewN | apply Kd.R_drew)); exact HO483.out))) (below_size (by repeat (first | (with_reducible first | exact HB.out | apply below_alloc | apply pw_below_drewN | apply below_drew1 | refine below_set ?_ GE441.out | refine below_set ?_ GE442.out | refine below_set ?_ GE448.out) | exact HB.out)))); have n11_ := Aside0.mk (blk_below (g := gb441) (o := .cells #[.slice A0_0 l0_0.length c0_0] 25 (0, 0)) (by (with_reducible repeat (first | refine blk_drewN ?_ _ | refine blk_drew ?_ | refine blk_alloc ?_ _)); exact BK441.out) hb); have n12_ := Aside0.mk (blk_below (g := gb442) (o := .cells #[.slice A1_0 l1_0.length c1_0] 25 (0, 0)) (by (with_reducible repeat (first | refine blk_drewN ?_ _ | refine blk_drew ?_ | refine blk_alloc ?_ _)); exact BK442.out) hb); have n13_ := Aside0.mk (blk_below (g := gb448) (o := .cells #[.slice Ao41 t445.length co41] 25 (0, 0)) (by (with_reducible repeat (first | refine blk_drewN ?_ _ | refine blk_drew ?_ | refine blk_alloc ?_ _)); exact BK448.out) hb); have n14_ := Aside0.mk (below_step (by repeat (first | (with_reducible first | exact HB.out | apply below_alloc | apply pw_below_drewN | apply below_drew1 | refine below_set ?_ GE441.out | refine below_set ?_ GE442.out | refine below_set ?_ GE448.out) | exact HB.out)) hb); clear HO447; clear HO451; clear HO455; clear HO459; clear HO463; clear HO467; clear HO471; clear HO475; clear HO479; clear HO483; clear BK441; clear BK442; clear BK448; clear HB; have HO447 := n0_; have HO451 := n1_; have HO455 := n2_; have HO459 := n3_; have HO463 := n4_; have HO467 := n5_; have HO471 := n6_; have HO475 := n7_; have HO479 := n8_; have HO483 := n9_; have HO487 := n10_; have BK441 := n11_; have BK442 := n12_; have BK448 := n13_; have HB := n14_; clear n0_ n1_ n2_ n3_ n4_ n5_ n6_ n7_ n8_ n9_ n10_ n11_ n12_ n13_ n14_; (try clear hb); (try clear hb2); (try clear hk); (try clear hi); (try clear ho0)))
    (try simp only [Act.put, sa_, s0_, s1_])
    go_cut [28] (fun v28 wc => ∃ (kq : Nat) (x28_35 : Bool), v28 = .bool x28_35 ∧ Aside0 (millhandlaw23_DagTells.j1 kq t449 t465 t473 t476 t477 t480 t481 t484 t485 t488 x28_35 l0_0 l1_0 t445 = some r) ∧ Aside0 (kq ≤ kj3) ∧ Aside0 (Kd.R (Kd.int .i64) 3 wc w.heap.size (fun k_ => some k_ ≠ (v466 : Value).ownBlock ∧ some k_ ≠ (v474 : Value).ownBlock ∧ some k_ ≠ (v478 : Value).ownBlock) v450 t449) ∧ Aside0 (Kd.R (Kd.int .i64) 3 wc w.heap.size (fun k_ => some k_ ≠ (v450 : Value).ownBlock ∧ some k_ ≠ (v474 : Value).ownBlock ∧ some k_ ≠ (v478 : Value).ownBlock) v466 t465) ∧ Aside0 (Kd.R (Kd.int .i64) 3 wc w.heap.size (fun k_ => some k_ ≠ (v450 : Value).ownBlock ∧ some k_ ≠ (v466 : Value).ownBlock ∧ some k_ ≠ (v478 : Value).ownBlock) v474 t473) ∧ Aside0 (Kd.R (Kd.int .i64) 3 wc w.heap.size (fun k_ => some k_ ≠ (v450 : Value).ownBlock ∧ some k_ ≠ (v466 : Value).ownBlock ∧ some k_ ≠ (v474 : Value).ownBlock) v478 t477) ∧ Aside0 (Kd.R (Kd.int .u8) 5 wc w.heap.size (fun k_ => some k_ ≠ (v486 : Value).ownBlock) v482 t481) ∧ Aside0 (Kd.R (Kd.int .u8) 5 wc w.heap.size (fun k_ => some k_ ≠ (v482 : Value).ownBlock) v486 t485) ∧ Aside0 (Kd.S k40 40 wc w.heap.size (fun k_ => some k_ ≠ (v450 : Value).ownBlock ∧ some k_ ≠ (v466 : Value).ownBlock ∧ some k_ ≠ (v474 : Value).ownBlock ∧ some k_ ≠ (v478 : Value).ownBlock) (.slice Ao41 t445.length co41) t445) ∧ Aside0 (wc.heap[gb441]? = some (.cells #[(.slice A0_0 l0_0.length c0_0)] 25 (0, 0))) ∧ Aside0 (wc.heap[gb442]? = some (.cells #[(.slice A1_0 l1_0.length c1_0)] 25 (0, 0))) ∧ Aside0 (wc.heap[gb448]? = some (.cells #[(.slice Ao41 t445.length co41)] 25 (0, 0))) ∧ Aside0 (Below w.heap.size w wc))
    case first =>
     have H := HC36.out
     clear HC36
     replace H := Option.bind_eq_some_iff.mp H
     obtain ⟨t489, A640, H⟩ := H
     replace H : (if t489 = true then (if t452 = t456 then ((millhandref23_Numbers.f kj3 t457 t461).bind fun t490 => (if t490 = true then (if t460 = t464 then ((millhandref23_Numbers.f kj3 t465 t469).bind fun t491 => (if t491 = true then (millhandlaw23_DagTells.j1 kj3 t449 t465 t473 t476 t477 t480 t481 t484 t485 t488 (t468 == t472) l0_0 l1_0 t445) else (millhandlaw23_DagTells.j1 kj3 t449 t465 t473 t476 t477 t480 t481 t484 t485 t488 false l0_0 l1_0 t445))) else (millhandlaw23_DagTells.j1 kj3 t449 t465 t473 t476 t477 t480 t481 t484 t485 t488 false l0_0 l1_0 t445)) else (millhandlaw23_DagTells.j1 kj3 t449 t465 t473 t476 t477 t480 t481 t484 t485 t488 false l0_0 l1_0 t445))) else (millhandlaw23_DagTells.j1 kj3 t449 t465 t473 t476 t477 t480 t481 t484 t485 t488 false l0_0 l1_0 t445)) else (millhandlaw23_DagTells.j1 kj3 t449 t465 t473 t476 t477 t480 t481 t484 t485 t488 false l0_0 l1_0 t445)) = some r := H
     have A64 := Aside0.mk A640
     clear A640
     by_cases c65 : t489 = true
     ·
      subst c65
      have H1 : (if t452 = t456 then ((millhandref23_Numbers.f kj3 t457 t461).bind fun t490 => (if t490 = true then (if t460 = t464 then ((millhandref23_Numbers.f kj3 t465 t469).bind fun t491 => (if t491 = true then (millhandlaw23_DagTells.j1 kj3 t449 t465 t473 t476 t477 t480 t481 t484 t485 t488 (t468 == t472) l0_0 l1_0 t445) else (millhandlaw23_DagTells.j1 kj3 t449 t465 t473 t476 t477 t480 t481 t484 t485 t488 false l0_0 l1_0 t445))) else (millhandlaw23_DagTells.j1 kj3 t449 t465 t473 t476 t477 t480 t481 t484 t485 t488 false l0_0 l1_0 t445)) else (millhandlaw23_DagTells.j1 kj3 t449 t465 t473 t476 t477 t480 t481 t484 t485 t488 false l0_0 l1_0 t445))) else (millhandlaw23_DagTells.j1 kj3 t449 t465 t473 t476 t477 t480 t481 t484 t485 t488 false l0_0 l1_0 t445)) = some r := by rw [if_pos rfl] at H; exact H
      clear H
      have H := H1
      clear H1
      by_cases c66 : t452 = t456
      ·
       rw [if_pos c66] at H
       have c66b0 : (t452 == t456) = true := beq_iff_eq.mpr c66
       have c66b1 : (t452 != t456) = false := bne_eq_false_iff_eq.mpr c66
       clear c66
       (first | rw [c66b0] | (simp only [i64_w, i32_w]; rw [c66b0]) | skip)
       replace H := Option.bind_eq_some_iff.mp H
       obtain ⟨t490, A670, H⟩ := H
       replace H : (if t490 = true then (if t460 = t464 then ((millhandref23_Numbers.f kj3 t465 t469).bind fun t491 => (if t491 = true then (millhandlaw23_DagTells.j1 kj3 t449 t465 t473 t476 t477 t480 t481 t484 t485 t488 (t468 == t472) l0_0 l1_0 t445) else (millhandlaw23_DagTells.j1 kj3 t449 t465 t473 t476 t477 t480 t481 t484 t485 t488 false l0_0 l1_0 t445))) else (millhandlaw23_DagTells.j1 kj3 t449 t465 t473 t476 t477 t480 t481 t484 t485 t488 false l0_0 l1_0 t445)) else (millhandlaw23_DagTells.j1 kj3 t449 t465 t473 t476 t477 t480 t481 t484 t485 t488 false l0_0 l1_0 t445)) = some r := H
       have A67 := Aside0.mk A670
       clear A670
       by_cases c68 : t490 = true
       ·
        subst c68
        have H1 : (if t460 = t464 then ((millhandref23_Numbers.f kj3 t465 t469).bind fun t491 => (if t491 = true then (millhandlaw23_DagTells.j1 kj3 t449 t465 t473 t476 t477 t480 t481 t484 t485 t488 (t468 == t472) l0_0 l1_0 t445) else (millhandlaw23_DagTells.j1 kj3 t449 t465 t473 t476 t477 t480 t481 t484 t485 t488 false l0_0 l1_0 t445))) else (millhandlaw23_DagTells.j1 kj3 t449 t465 t473 t476 t477 t480 t481 t484 t485 t488 false l0_0 l1_0 t445)) = some r := by rw [if_pos rfl] at H; exact H
        clear H
        have H := H1
        clear H1
        by_cases c69 : t460 = t464
        ·
         rw [if_pos c69] at H
         have c69b0 : (t460 == t464) = true := beq_iff_eq.mpr c69
         have c69b1 : (t460 != t464) = false := bne_eq_false_iff_eq.mpr c69
         clear c69
         replace H := Option.bind_eq_some_iff.mp H
         obtain ⟨t491, A700, H⟩ := H
         replace H : (if t491 = true then (millhandlaw23_DagTells.j1 kj3 t449 t465 t473 t476 t477 t480 t481 t484 t485 t488 (t468 == t472) l0_0 l1_0 t445) else (millhandlaw23_DagTells.j1 kj3 t449 t465 t473 t476 t477 t480 t481 t484 t485 t488 false l0_0 l1_0 t445)) = some r := H
         have A70 := Aside0.mk A700
         clear A700
         by_cases c71 : t491 = true
         ·
          subst c71
          have H1 : (millhandlaw23_DagTells.j1 kj3 t449 t465 t473 t476 t477 t480 t481 t484 t485 t488 (t468 == t472) l0_0 l1_0 t445) = some r := by rw [if_pos rfl] at H; exact H
          clear H
          have H := H1
          clear H1
          have H' := Aside0.mk H
          clear H
          obtain ⟨Ao72, co72, eo72⟩ := Kd.R_slice HO451.out
          subst eo72
          obtain ⟨Ao73, co73, eo73⟩ := Kd.R_slice HO455.out
          subst eo73
          go_wp2_with (first | ((with_reducible refine gate_callee (f := 26) rfl ?_); refine goesL_ (some 99) rfl rfl Try.func26 (by kernel_rfl) rfl #[.slice Ao72 t449.length co72, .slice Ao73 t453.length co73] rfl (by (try simp only [List.map_toArray, List.map_cons, List.map_nil]); first | done | rfl | (simp only [List.length_drop, List.length_take]; rfl)) ?_; (with_reducible refine (millhandref23_Numbers.calls kj3 _ _ t449 _ _ t453 true _ ?side1 ?side2 ?side3 ?side4 A64.out).mono ?_); (case side1 => repeat (first | exact (Kd.R_reads' HO451.out).2.2 | (with_reducible refine Kd.C_alloc ?_ _) | (with_reducible refine Kd.C_drewN ?_ _) | (with_reducible refine Kd.C_drew ?_))); (case side2 => exact (Kd.R_reads' HO451.out).2.1); (case side3 => repeat (first | exact (Kd.R_reads' HO455.out).2.2 | (with_reducible refine Kd.C_alloc ?_ _) | (with_reducible refine Kd.C_drewN ?_ _) | (with_reducible refine Kd.C_drew ?_))); (case side4 => exact (Kd.R_reads' HO455.out).2.1); rintro e w' ⟨rfl, ⟨nd, rfl⟩⟩; refine ⟨_, rfl, ?_⟩; obtain ⟨Ao74, co74, eo74⟩ := Kd.R_slice HO459.out; subst eo74; obtain ⟨Ao75, co75, eo75⟩ := Kd.R_slice HO463.out; subst eo75) | (go_at_call 26; (with_reducible refine (millhandref23_Numbers.calls kj3 _ _ t457 _ _ t461 true _ ?side1 ?side2 ?side3 ?side4 A67.out).mono ?_); (case side1 => repeat (first | exact (Kd.R_reads' HO459.out).2.2 | (with_reducible refine Kd.C_alloc ?_ _) | (with_reducible refine Kd.C_drewN ?_ _) | (with_reducible refine Kd.C_drew ?_))); (case side2 => exact (Kd.R_reads' HO459.out).2.1); (case side3 => repeat (first | exact (Kd.R_reads' HO463.out).2.2 | (with_reducible refine Kd.C_alloc ?_ _) | (with_reducible refine Kd.C_drewN ?_ _) | (with_reducible refine Kd.C_drew ?_))); (case side4 => exact (Kd.R_reads' HO463.out).2.1); rintro e w' ⟨rfl, ⟨nd, rfl⟩⟩; obtain ⟨Ao76, co76, eo76⟩ := Kd.R_slice HO467.out; subst eo76; obtain ⟨Ao77, co77, eo77⟩ := Kd.R_slice HO471.out; subst eo77) | (go_at_call 26; (with_reducible refine (millhandref23_Numbers.calls kj3 _ _ t465 _ _ t469 true _ ?side1 ?side2 ?side3 ?side4 A70.out).mono ?_); (case side1 => repeat (first | exact (Kd.R_reads' HO467.out).2.2 | (with_reducible refine Kd.C_alloc ?_ _) | (with_reducible refine Kd.C_drewN ?_ _) | (with_reducible refine Kd.C_drew ?_))); (case side2 => exact (Kd.R_reads' HO467.out).2.1); (case side3 => repeat (first | exact (Kd.R_reads' HO471.out).2.2 | (with_reducible refine Kd.C_alloc ?_ _) | (with_reducible refine Kd.C_drewN ?_ _) | (with_reducible refine Kd.C_drew ?_))); (case side4 => exact (Kd.R_reads' HO471.out).2.1); rintro e w' ⟨rfl, ⟨nd, rfl⟩⟩))
          go_meet
          case rel => exact ⟨_, ((t468 == t472)), (by first | rfl | (simp; done) | (simp [*]; done)), H', ⟨by have := HJ3.out; first | omega | exact Nat.le_refl _⟩, ⟨by (with_reducible repeat (first | apply Kd.R_alloc | apply Kd.R_drewN | apply Kd.R_drew)); exact Kd.R_mono HO451.out (fun _ hk => ⟨hk.1.1.1.2, ⟨hk.1.2, hk.2⟩⟩)⟩, ⟨by (with_reducible repeat (first | apply Kd.R_alloc | apply Kd.R_drewN | apply Kd.R_drew)); exact Kd.R_mono HO467.out (fun _ hk => ⟨hk.1.1.1.1.1.1.2, ⟨hk.1.2, hk.2⟩⟩)⟩, ⟨by (with_reducible repeat (first | apply Kd.R_alloc | apply Kd.R_drewN | apply Kd.R_drew)); exact Kd.R_mono HO475.out (fun _ hk => ⟨hk.1.1.1.1.1.1.2, ⟨hk.1.1.2, hk.2⟩⟩)⟩, ⟨by (with_reducible repeat (first | apply Kd.R_alloc | apply Kd.R_drewN | apply Kd.R_drew)); exact Kd.R_mono HO479.out (fun _ hk => ⟨hk.1.1.1.1.1.1.2, ⟨hk.1.1.2, hk.2⟩⟩)⟩, ⟨by (with_reducible repeat (first | apply Kd.R_alloc | apply Kd.R_drewN | apply Kd.R_drew)); exact Kd.R_mono HO483.out (fun _ hk => hk.2)⟩, ⟨by (with_reducible repeat (first | apply Kd.R_alloc | apply Kd.R_drewN | apply Kd.R_drew)); exact Kd.R_mono HO487.out (fun _ hk => hk.2)⟩, ⟨by (with_reducible repeat (first | apply Kd.S_alloc | apply Kd.S_drewN | apply Kd.S_drew)); exact Kd.S_mono HO447.out (fun _ hk => ⟨hk.1.1.1.1.1.1.1.2, ⟨hk.1.1.1.2, ⟨hk.1.2, hk.2⟩⟩⟩)⟩, ⟨by (with_reducible repeat (first | refine blk_drewN ?_ _ | refine blk_drew ?_ | refine blk_alloc ?_ _)); exact BK441.out⟩, ⟨by (with_reducible repeat (first | refine blk_drewN ?_ _ | refine blk_drew ?_ | refine blk_alloc ?_ _)); exact BK442.out⟩, ⟨by (with_reducible repeat (first | refine blk_drewN ?_ _ | refine blk_drew ?_ | refine blk_alloc ?_ _)); exact BK448.out⟩, ⟨by repeat (first | (with_reducible first | exact HB.out | apply below_alloc | apply pw_below_drewN | apply below_drew1 | refine below_set ?_ GE441.out | refine below_set ?_ GE442.out | refine below_set ?_ GE448.out) | exact HB.out)⟩⟩
         ·
          exact absurd (num_true HE.out.2.2.2.2.2.1 A70.out) c71
        ·
         exact absurd (HE.out.2.2.2.2.1) c69
       ·
        exact absurd (num_true HE.out.2.2.2.1 A67.out) c68
      ·
       exact absurd (HE.out.2.2.1) c66
     ·
      exact absurd (num_true HE.out.2.1 A64.out) c65
    case rest =>
     clear HC36
     try clear c1
     try clear c2
     try clear p2
     try clear c3
     try clear c4
     try clear c6
     try clear c7
     try clear c8
     try clear c9
     try clear c13
     try clear c14
     try clear c15
     try clear c17
     try clear c18
     try clear c19
     try clear c20
     try clear c21
     try clear c22
     try clear c23
     try clear c24
     try clear c25
     try clear c26
     try clear c37
     try clear c42
     try clear c43
     try clear c65
     try clear c66
     try clear c66b0
     try clear c66b1
     try clear c68
     try clear c69
     try clear c69b0
     try clear c69b1
     try clear c71
     try clear hcz10_0
     try clear hcz15_0
     try clear hcz17_0
     try clear hcz20_0
     try clear hcz22_0
     try clear hcz38_0
     try clear hcz44_0
     try clear hcz46_0
     try clear hcz48_0
     try clear hcz50_0
     try clear hcz52_0
     try clear hcz54_0
     try clear hcz56_0
     try clear hcz58_0
     try clear hcz60_0
     try clear hcz62_0
     try clear hfz10_0
     try clear hfz15_0
     try clear hfz17_0
     try clear hfz20_0
     try clear hfz22_0
     try clear hfz38_0
     try clear hfz44_0
     try clear hfz46_0
     try clear hfz48_0
     try clear hfz50_0
     try clear hfz52_0
     try clear hfz54_0
     try clear hfz56_0
     try clear hfz58_0
     try clear hfz60_0
     try clear hfz62_0
     try clear p2
     obtain ⟨kq, x28_35, rfl, HA, HJ35, HO_8, HO_16, HO_20, HO_22, HO_24, HO_26, HO_449000, BK441, BK442, BK448, HB⟩ := hcut
     cases kq with
     | zero => exact absurd HA.out (by simp [millhandlaw23_DagTells.j1])
     | succ kj35 =>
      have H := HA.out
      clear HA
      simp only [millhandlaw23_DagTells.j1] at H
      have HC96 := Aside0.mk H
      clear H
      go_upto_region 15 with (fail)
      go_cut [29] (fun v29 wc => ∃ (kq : Nat) (x29_95 : Bool), v29 = .bool x29_95 ∧ Aside0 (millhandlaw23_DagTells.j2 kq t449 t465 x28_35 x29_95 l0_0 t445 = some r) ∧ Aside0 (kq ≤ kj35) ∧ Aside0 (Kd.R (Kd.int .i64) 3 wc w.heap.size (fun k_ => some k_ ≠ (v466 : Value).ownBlock) v450 t449) ∧ Aside0 (Kd.R (Kd.int .i64) 3 wc w.heap.size (fun k_ => some k_ ≠ (v450 : Value).ownBlock) v466 t465) ∧ Aside0 (Kd.S k40 40 wc w.heap.size (fun k_ => some k_ ≠ (v450 : Value).ownBlock ∧ some k_ ≠ (v466 : Value).ownBlock) (.slice Ao41 t445.length co41) t445) ∧ Aside0 (wc.heap[gb441]? = some (.cells #[(.slice A0_0 l0_0.length c0_0)] 25 (0, 0))) ∧ Aside0 (wc.heap[gb442]? = some (.cells #[(.slice A1_0 l1_0.length c1_0)] 25 (0, 0))) ∧ Aside0 (wc.heap[gb448]? = some (.cells #[(.slice Ao41 t445.length co41)] 25 (0, 0))) ∧ Aside0 (Below w.heap.size w wc))
      case first =>
       have H := HC96.out
       clear HC96
       replace H := Option.bind_eq_some_iff.mp H
       obtain ⟨t492, A970, H⟩ := H
       replace H : (if t492 = true then (if t476 = t480 then (if (strOfNums t481).toList = (strOfNums t485).toList then (if t484 = t488 then ((dag_Check.f kj35 t445).bind fun t493 => ((millhandref23_Check.f kj35 l0_0).bind fun t494 => (if t493 = t494 then ((dag_Same.f kj35 l0_0 l1_0).bind fun t495 => ((millhandref23_Same.f kj35 l0_0 l1_0).bind fun t496 => (if (t495 == t496) = true then ((dag_Same.f kj35 t445 l0_0).bind fun t497 => (millhandlaw23_DagTells.j2 kj35 t449 t465 x28_35 t497 l0_0 t445)) else (millhandlaw23_DagTells.j2 kj35 t449 t465 x28_35 false l0_0 t445)))) else (millhandlaw23_DagTells.j2 kj35 t449 t465 x28_35 false l0_0 t445)))) else (millhandlaw23_DagTells.j2 kj35 t449 t465 x28_35 false l0_0 t445)) else (millhandlaw23_DagTells.j2 kj35 t449 t465 x28_35 false l0_0 t445)) else (millhandlaw23_DagTells.j2 kj35 t449 t465 x28_35 false l0_0 t445)) else (millhandlaw23_DagTells.j2 kj35 t449 t465 x28_35 false l0_0 t445)) = some r := H
       have A97 := Aside0.mk A970
       clear A970
       by_cases c98 : t492 = true
       ·
        subst c98
        have H1 : (if t476 = t480 then (if (strOfNums t481).toList = (strOfNums t485).toList then (if t484 = t488 then ((dag_Check.f kj35 t445).bind fun t493 => ((millhandref23_Check.f kj35 l0_0).bind fun t494 => (if t493 = t494 then ((dag_Same.f kj35 l0_0 l1_0).bind fun t495 => ((millhandref23_Same.f kj35 l0_0 l1_0).bind fun t496 => (if (t495 == t496) = true then ((dag_Same.f kj35 t445 l0_0).bind fun t497 => (millhandlaw23_DagTells.j2 kj35 t449 t465 x28_35 t497 l0_0 t445)) else (millhandlaw23_DagTells.j2 kj35 t449 t465 x28_35 false l0_0 t445)))) else (millhandlaw23_DagTells.j2 kj35 t449 t465 x28_35 false l0_0 t445)))) else (millhandlaw23_DagTells.j2 kj35 t449 t465 x28_35 false l0_0 t445)) else (millhandlaw23_DagTells.j2 kj35 t449 t465 x28_35 false l0_0 t445)) else (millhandlaw23_DagTells.j2 kj35 t449 t465 x28_35 false l0_0 t445)) = some r := by rw [if_pos rfl] at H; exact H
        clear H
        have H := H1
        clear H1
        by_cases c99 : t476 = t480
        ·
         rw [if_pos c99] at H
         have c99b0 : (t476 == t480) = true := beq_iff_eq.mpr c99
         have c99b1 : (t476 != t480) = false := bne_eq_false_iff_eq.mpr c99
         clear c99
         (first | rw [c99b0] | (simp only [i64_w, i32_w]; rw [c99b0]) | skip)
         by_cases c100 : (strOfNums t481).toList = (strOfNums t485).toList
         ·
          rw [if_pos c100] at H
          have c100b0 : ((strOfNums t481).toList == (strOfNums t485).toList) = true := beq_iff_eq.mpr c100
          have c100b1 : ((strOfNums t481).toList != (strOfNums t485).toList) = false := bne_eq_false_iff_eq.mpr c100
          clear c100
          by_cases c101 : t484 = t488
          ·
           rw [if_pos c101] at H
           have c101b0 : (t484 == t488) = true := beq_iff_eq.mpr c101
           have c101b1 : (t484 != t488) = false := bne_eq_false_iff_eq.mpr c101
           clear c101
           replace H := Option.bind_eq_some_iff.mp H
           obtain ⟨t493, A1020, H⟩ := H
           replace H : ((millhandref23_Check.f kj35 l0_0).bind fun t494 => (if t493 = t494 then ((dag_Same.f kj35 l0_0 l1_0).bind fun t495 => ((millhandref23_Same.f kj35 l0_0 l1_0).bind fun t496 => (if (t495 == t496) = true then ((dag_Same.f kj35 t445 l0_0).bind fun t497 => (millhandlaw23_DagTells.j2 kj35 t449 t465 x28_35 t497 l0_0 t445)) else (millhandlaw23_DagTells.j2 kj35 t449 t465 x28_35 false l0_0 t445)))) else (millhandlaw23_DagTells.j2 kj35 t449 t465 x28_35 false l0_0 t445))) = some r := H
           have A102 := Aside0.mk A1020
           clear A1020
           replace H := Option.bind_eq_some_iff.mp H
           obtain ⟨t494, A1030, H⟩ := H
           replace H : (if t493 = t494 then ((dag_Same.f kj35 l0_0 l1_0).bind fun t495 => ((millhandref23_Same.f kj35 l0_0 l1_0).bind fun t496 => (if (t495 == t496) = true then ((dag_Same.f kj35 t445 l0_0).bind fun t497 => (millhandlaw23_DagTells.j2 kj35 t449 t465 x28_35 t497 l0_0 t445)) else (millhandlaw23_DagTells.j2 kj35 t449 t465 x28_35 false l0_0 t445)))) else (millhandlaw23_DagTells.j2 kj35 t449 t465 x28_35 false l0_0 t445)) = some r := H
           have A103 := Aside0.mk A1030
           clear A1030
           by_cases c104 : t493 = t494
           ·
            rw [if_pos c104] at H
            have c104b0 : (t493 == t494) = true := beq_iff_eq.mpr c104
            have c104b1 : (t493 != t494) = false := bne_eq_false_iff_eq.mpr c104
            clear c104
            replace H := Option.bind_eq_some_iff.mp H
            obtain ⟨t495, A1050, H⟩ := H
            replace H : ((millhandref23_Same.f kj35 l0_0 l1_0).bind fun t496 => (if (t495 == t496) = true then ((dag_Same.f kj35 t445 l0_0).bind fun t497 => (millhandlaw23_DagTells.j2 kj35 t449 t465 x28_35 t497 l0_0 t445)) else (millhandlaw23_DagTells.j2 kj35 t449 t465 x28_35 false l0_0 t445))) = some r := H
            have A105 := Aside0.mk A1050
            clear A1050
            replace H := Option.bind_eq_some_iff.mp H
            obtain ⟨t496, A1060, H⟩ := H
            replace H : (if (t495 == t496) = true then ((dag_Same.f kj35 t445 l0_0).bind fun t497 => (millhandlaw23_DagTells.j2 kj35 t449 t465 x28_35 t497 l0_0 t445)) else (millhandlaw23_DagTells.j2 kj35 t449 t465 x28_35 false l0_0 t445)) = some r := H
            have A106 := Aside0.mk A1060
            clear A1060
            by_cases c107 : (t495 == t496) = true
            ·
             rw [if_pos c107] at H
             have c107b0 : (t495 == t496) = true := c107
             (try (have c107b1 : decide (t495 = t496) = true := by simpa using c107))
             (try (have c107b2 : (t495 == t496) = true := by simpa using c107))
             clear c107
             replace H := Option.bind_eq_some_iff.mp H
             obtain ⟨t497, A1080, H⟩ := H
             replace H : (millhandlaw23_DagTells.j2 kj35 t449 t465 x28_35 t497 l0_0 t445) = some r := H
             have A108 := Aside0.mk A1080
             clear A1080
             have H' := Aside0.mk H
             clear H
             obtain ⟨Ao109, co109, eo109⟩ := Kd.R_slice HO_20.out
             subst eo109
             obtain ⟨Ao110, co110, eo110⟩ := Kd.R_slice HO_22.out
             subst eo110
             obtain ⟨Ao24_, co24_, eo24_⟩ := Kd.R_slice HO_24.out
             subst eo24_
             obtain ⟨Ao26_, co26_, eo26_⟩ := Kd.R_slice HO_26.out
             subst eo26_
             try go_wp2
             have n0_ := Aside0.mk (Kd.R_drew HO_8.out)
             have n1_ := Aside0.mk (Kd.R_drew HO_16.out)
             have n2_ := Aside0.mk (Kd.R_drew HO_20.out)
             have n3_ := Aside0.mk (Kd.R_drew HO_22.out)
             have n4_ := Aside0.mk (Kd.R_drew HO_24.out)
             have n5_ := Aside0.mk (Kd.R_drew HO_26.out)
             have n6_ := Aside0.mk (Kd.S_drew HO_449000.out)
             have n7_ := Aside0.mk (blk_drew BK441.out)
             have n8_ := Aside0.mk (blk_drew BK442.out)
             have n9_ := Aside0.mk (blk_drew BK448.out)
             have n10_ := Aside0.mk (below_drew1 HB.out)
             clear HO_8
             clear HO_16
             clear HO_20
             clear HO_22
             clear HO_24
             clear HO_26
             clear HO_449000
             clear BK441
             clear BK442
             clear BK448
             clear HB
             have HO_8 := n0_
             have HO_16 := n1_
             have HO_20 := n2_
             have HO_22 := n3_
             have HO_24 := n4_
             have HO_26 := n5_
             have HO_449000 := n6_
             have BK441 := n7_
             have BK442 := n8_
             have BK448 := n9_
             have HB := n10_
             clear n0_ n1_ n2_ n3_ n4_ n5_ n6_ n7_ n8_ n9_ n10_
             refine start_ (n := 42) (S := fun w' => w'.cell? ⟨gb448, 0, none⟩ = some (.slice Ao41 t445.length co41) ∧ w'.cell? ⟨gb441, 0, none⟩ = some (.slice A0_0 l0_0.length c0_0) ∧ w'.cell? ⟨gb442, 0, none⟩ = some (.slice A1_0 l1_0.length c1_0) ∧ (convert 22 9 (.slice Ao24_ t481.length co24_)).run Try.prog w' = .ok (.string (strOfNums t481)) w' ∧ (convert 22 9 (.slice Ao26_ t485.length co26_)).run Try.prog w' = .ok (.string (strOfNums t485)) w') (ds := []) (b_ 42 0) (by kernel_rfl) rfl rfl ⟨(blk_cell BK448.out 0).trans rfl, (blk_cell BK441.out 0).trans rfl, (blk_cell BK442.out 0).trans rfl, (by first | exact own_string (P := Try.prog) Try.underlying22 Try.underlying5 Try.underlying9 (Kd.own_of_R HO_24.out) | exact own_string (P := Try.prog) Try.underlying22 Try.underlying5 Try.underlying9 (Kd.own_of_R (Kd.R_drewN HO_24.out _))), (by first | exact own_string (P := Try.prog) Try.underlying22 Try.underlying5 Try.underlying9 (Kd.own_of_R HO_26.out) | exact own_string (P := Try.prog) Try.underlying22 Try.underlying5 Try.underlying9 (Kd.own_of_R (Kd.R_drewN HO_26.out _)))⟩ (fun hHeld => ?_); refine with_tabW millhandlaw23_DagTells.tab15 millhandlaw23_DagTells.bits15 (fun HT_ HW_ => ?_)
             generalize wc.drew = w111 at HO_8 HO_16 HO_20 HO_22 HO_24 HO_26 HO_449000 BK441 BK442 BK448 HB hHeld ⊢
             refine pA_ 0 125 ?_ (b_ 42 1) (any_of HT_.out (by kernel_rfl)) rfl rfl (fun _ _ _ h => h) (by rfl) ?_ ?_ ?_ ?_
             rotate_left
             ·
              intro w'
              go_simp
              with_reducible rfl
             rotate_left
             ·
              simp only [Act.put, sa_, s0_, s1_, i64_w, i32_w]
              rfl
             refine pA_ 1 126 ?_ (b_ 42 3) (any_of HT_.out (by kernel_rfl)) rfl rfl (fun _ _ _ h => h) (by rfl) ?_ ?_ ?_ ?_
             rotate_left
             ·
              intro w'
              go_simp
              with_reducible rfl
             rotate_left
             ·
              simp only [Act.put, sa_, s0_, s1_, i64_w, i32_w]
              rfl
             refine one_ (i := 2) (N := some 127) (b_ 42 7) rfl rfl (one_of HT_.out (by kernel_rfl)) (by decide) (fun K hK => ?_)
             refine goes_ Try.func26 (by kernel_rfl) rfl #[.slice Ao109 t473.length co109, .slice Ao110 t477.length co110] (by rfl) rfl rfl (by (try simp only [List.map_toArray, List.map_cons, List.map_nil]); first | done | rfl | (simp only [List.length_drop, List.length_take]; rfl)) ?_
             with_reducible refine (millhandref23_Numbers.calls kj35 _ _ t473 _ _ t477 true _ ?side1 ?side2 ?side3 ?side4 A97.out).mono ?_
             (case side1 => repeat (first | exact (Kd.R_reads' HO_20.out).2.2 | (with_reducible refine Kd.C_alloc ?_ _) | (with_reducible refine Kd.C_drewN ?_ _) | (with_reducible refine Kd.C_drew ?_)))
             (case side2 => exact (Kd.R_reads' HO_20.out).2.1)
             (case side3 => repeat (first | exact (Kd.R_reads' HO_22.out).2.2 | (with_reducible refine Kd.C_alloc ?_ _) | (with_reducible refine Kd.C_drewN ?_ _) | (with_reducible refine Kd.C_drew ?_)))
             (case side4 => exact (Kd.R_reads' HO_22.out).2.1)
             rintro e w' ⟨rfl, ⟨nd, rfl⟩⟩
             refine ⟨_, rfl, ?_⟩
             have hcv112 := own_string (P := Try.prog) Try.underlying22 Try.underlying5 Try.underlying9 (Kd.own_of_R HO_24.out)
             have hcv113 := own_string (P := Try.prog) Try.underlying22 Try.underlying5 Try.underlying9 (Kd.own_of_R HO_26.out)
             refine hK.out _ _ ⟨(blk_cell BK448.out 0).trans rfl, (blk_cell BK441.out 0).trans rfl, (blk_cell BK442.out 0).trans rfl, (by first | exact own_string (P := Try.prog) Try.underlying22 Try.underlying5 Try.underlying9 (Kd.own_of_R HO_24.out) | exact own_string (P := Try.prog) Try.underlying22 Try.underlying5 Try.underlying9 (Kd.own_of_R (Kd.R_drewN HO_24.out _))), (by first | exact own_string (P := Try.prog) Try.underlying22 Try.underlying5 Try.underlying9 (Kd.own_of_R HO_26.out) | exact own_string (P := Try.prog) Try.underlying22 Try.underlying5 Try.underlying9 (Kd.own_of_R (Kd.R_drewN HO_26.out _)))⟩ (fun hHeld => ?_)
             clear hK K
             refine norm_ (a' := ?_) ?_ ?_
             rotate_left
             ·
              show Act.put _ (some 127) _ = _
              simp only [Act.put, sa_, s0_, s1_, i64_w, i32_w]
              rfl
             refine pA_ 3 128 ?_ (b_ 42 15) (any_of HT_.out (by kernel_rfl)) rfl rfl (fun _ _ _ h => h) (by rfl) ?_ ?_ ?_ ?_
             rotate_left
             ·
              intro w'
              go_simp
              with_reducible rfl
             rotate_left
             ·
              simp only [Act.put, sa_, s0_, s1_, i64_w, i32_w]
              rfl
             refine pA_ 4 129 ?_ (b_ 42 31) (any_of HT_.out (by kernel_rfl)) rfl rfl (fun _ _ _ h => h) (by rfl) ?_ ?_ ?_ ?_
             rotate_left
             ·
              intro w'
              go_simp
              with_reducible rfl
             rotate_left
             ·
              simp only [Act.put, sa_, s0_, s1_, i64_w, i32_w]
              rfl
             refine pA_ 5 130 ?_ (b_ 42 63) (any_of HT_.out (by kernel_rfl)) rfl rfl (fun _ _ _ h => h) (by rfl) ?_ ?_ ?_ ?_
             rotate_left
             ·
              intro w'
              go_simp
              with_reducible rfl
             rotate_left
             ·
              simp only [Act.put, sa_, s0_, s1_, i64_w, i32_w]
              rfl
             refine pA_ 6 131 ?_ (b_ 42 127) (any_of HT_.out (by kernel_rfl)) rfl rfl (fun _ _ _ h => h) (by rfl) ?_ ?_ ?_ ?_
             rotate_left
             ·
              intro w'
              go_simp
              with_reducible rfl
             rotate_left
             ·
              simp only [Act.put, sa_, s0_, s1_, i64_w, i32_w]
              rfl
             refine pA_ 7 132 ?_ (b_ 42 255) (any_of HT_.out (by kernel_rfl)) rfl rfl (fun _ _ _ h => h) (by rfl) ?_ ?_ ?_ ?_
             rotate_left
             ·
              intro w'
              go_simp
              with_reducible rfl
             rotate_left
             ·
              simp only [Act.put, sa_, s0_, s1_, i64_w, i32_w]
              rfl
             refine pA_ 8 133 ?_ (b_ 42 511) (any_of HT_.out (by kernel_rfl)) rfl rfl (fun _ _ _ h => h) (by rfl) ?_ ?_ ?_ ?_
             rotate_left
             ·
              intro w'
              go_simp
              with_reducible rfl
             rotate_left
             ·
              simp only [Act.put, sa_, s0_, s1_, i64_w, i32_w]
              rfl
             refine pA_ 9 134 ?_ (b_ 42 1023) (any_of HT_.out (by kernel_rfl)) rfl rfl (fun _ _ _ h => h) (by rfl) ?_ ?_ ?_ ?_
             rotate_left
             ·
              intro w'
              go_simp
              with_reducible rfl
             rotate_left
             ·
              simp only [Act.put, sa_, s0_, s1_, i64_w, i32_w]
              rfl
             refine tA_ 10 135 ?_ (b_ 42 2047) (take_ofW HT_.out HW_.out (by kernel_rfl)) rfl rfl (fun _ _ _ h => h) (by rfl) ?_ hHeld ?_ ?_ ?_
             rotate_left
             ·
              rintro w' ⟨s0, s1, s2, s3, s4⟩
              go_simp
              with_reducible rfl
             rotate_left
             ·
              simp only [Act.put, sa_, s0_, s1_, i64_w, i32_w]
              rfl
             refine pA_ 11 136 ?_ (b_ 42 4095) (any_of HT_.out (by kernel_rfl)) rfl rfl (fun _ _ _ h => h) (by rfl) ?_ ?_ ?_ ?_
             rotate_left
             ·
              intro w'
              go_simp
              with_reducible rfl
             rotate_left
             ·
              simp only [Act.put, sa_, s0_, s1_, i64_w, i32_w]
              rfl
             refine tA_ 12 137 ?_ (b_ 42 8191) (take_ofW HT_.out HW_.out (by kernel_rfl)) rfl rfl (fun _ _ _ h => h) (by rfl) ?_ hHeld ?_ ?_ ?_
             rotate_left
             ·
              rintro w' ⟨s0, s1, s2, s3, s4⟩
              go_simp
              with_reducible rfl
             rotate_left
             ·
              simp only [Act.put, sa_, s0_, s1_, i64_w, i32_w]
              rfl
             refine pA_ 13 138 ?_ (b_ 42 16383) (any_of HT_.out (by kernel_rfl)) rfl rfl (fun _ _ _ h => h) (by rfl) ?_ ?_ ?_ ?_
             rotate_left
             ·
              intro w'
              go_simp
              with_reducible rfl
             rotate_left
             ·
              simp only [Act.put, sa_, s0_, s1_, i64_w, i32_w]
              rfl
             refine pA_ 14 139 ?_ (b_ 42 32767) (any_of HT_.out (by kernel_rfl)) rfl rfl (fun _ _ _ h => h) (by rfl) ?_ ?_ ?_ ?_
             rotate_left
             ·
              intro w'
              go_simp
              with_reducible rfl
             rotate_left
             ·
              simp only [Act.put, sa_, s0_, s1_, i64_w, i32_w]
              rfl
             refine pA_ 15 140 ?_ (b_ 42 65535) (any_of HT_.out (by kernel_rfl)) rfl rfl (fun _ _ _ h => h) (by rfl) ?_ ?_ ?_ ?_
             rotate_left
             ·
              intro w'
              go_simp
              with_reducible rfl
             rotate_left
             ·
              simp only [Act.put, sa_, s0_, s1_, i64_w, i32_w]
              rfl
             refine pA_ 16 141 ?_ (b_ 42 131071) (any_of HT_.out (by kernel_rfl)) rfl rfl (fun _ _ _ h => h) (by rfl) ?_ ?_ ?_ ?_
             rotate_left
             ·
              intro w'
              go_simp
              with_reducible rfl
             rotate_left
             ·
              simp only [Act.put, sa_, s0_, s1_, i64_w, i32_w]
              rfl
             refine pA_ 17 142 ?_ (b_ 42 262143) (any_of HT_.out (by kernel_rfl)) rfl rfl (fun _ _ _ h => h) (by rfl) ?_ ?_ ?_ ?_
             rotate_left
             ·
              intro w'
              go_simp
              with_reducible rfl
             rotate_left
             ·
              simp only [Act.put, sa_, s0_, s1_, i64_w, i32_w]
              rfl
             refine pA_ 18 143 ?_ (b_ 42 524287) (any_of HT_.out (by kernel_rfl)) rfl rfl (fun _ _ _ h => h) (by rfl) ?_ ?_ ?_ ?_
             rotate_left
             ·
              intro w'
              go_simp
              with_reducible rfl
             rotate_left
             ·
              simp only [Act.put, sa_, s0_, s1_, i64_w, i32_w]
              rfl
             refine pA_ 19 144 ?_ (b_ 42 1048575) (any_of HT_.out (by kernel_rfl)) rfl rfl (fun _ _ _ h => h) (by rfl) ?_ ?_ ?_ ?_
             rotate_left
             ·
              intro w'
              go_simp
              with_reducible rfl
             rotate_left
             ·
              simp only [Act.put, sa_, s0_, s1_, i64_w, i32_w]
              rfl
             refine pA_ 20 145 ?_ (b_ 42 2097151) (any_of HT_.out (by kernel_rfl)) rfl rfl (fun _ _ _ h => h) (by rfl) ?_ ?_ ?_ ?_
             rotate_left
             ·
              intro w'
              go_simp
              with_reducible rfl
             rotate_left
             ·
              simp only [Act.put, sa_, s0_, s1_, i64_w, i32_w]
              rfl
             refine tA_ 21 146 ?_ (b_ 42 4194303) (take_ofW HT_.out HW_.out (by kernel_rfl)) rfl rfl (fun _ _ _ h => h) (by rfl) ?_ hHeld ?_ ?_ ?_
             rotate_left
             ·
              rintro w' ⟨s0, s1, s2, s3, s4⟩
              go_simp
              with_reducible rfl
             rotate_left
             ·
              simp only [Act.put, sa_, s0_, s1_, i64_w, i32_w]
              rfl
             refine tA_ 23 148 ?_ (b_ 42 12582911) (take_ofW HT_.out HW_.out (by kernel_rfl)) rfl rfl (fun _ _ _ h => h) (by rfl) ?_ hHeld ?_ ?_ ?_
             rotate_left
             ·
              rintro w' ⟨s0, s1, s2, s3, s4⟩
              go_simp
              with_reducible rfl
             rotate_left
             ·
              simp only [Act.put, sa_, s0_, s1_, i64_w, i32_w]
              rfl
             refine one_ (i := 22) (N := some 147) (b_ 42 16777215) rfl rfl (one_of HT_.out (by kernel_rfl)) (by decide) (fun K hK => ?_)
             refine goes_ Try.func16 (by kernel_rfl) rfl #[.agg #[.slice Ao41 t445.length co41]] (by rfl) rfl rfl (by (try simp only [List.map_toArray, List.map_cons, List.map_nil]); first | done | rfl | (simp only [List.length_drop, List.length_take]; rfl)) ?_
             with_reducible refine (dag_Check.calls kj35 _ _ t445 t493 _ ?side1 ?side2 A102.out).mono ?_
             (case side1 => repeat (first | exact (Kd.S_reads' HO_449000.out).2.2 | (with_reducible refine Kd.C_alloc ?_ _) | (with_reducible refine Kd.C_drewN ?_ _) | (with_reducible refine Kd.C_drew ?_)))
             (case side2 => exact (Kd.S_reads' HO_449000.out).2.1)
             rintro e w115 ⟨rfl, hb⟩
             refine ⟨_, rfl, ?_⟩
             have n0_ := Aside0.mk (Kd.R_below (by (with_reducible repeat (first | apply Kd.R_alloc | apply Kd.R_drewN | apply Kd.R_drew)); exact HO_8.out) hb)
             have n1_ := Aside0.mk (Kd.R_below (by (with_reducible repeat (first | apply Kd.R_alloc | apply Kd.R_drewN | apply Kd.R_drew)); exact HO_16.out) hb)
             have n2_ := Aside0.mk (Kd.R_below (by (with_reducible repeat (first | apply Kd.R_alloc | apply Kd.R_drewN | apply Kd.R_drew)); exact HO_20.out) hb)
             have n3_ := Aside0.mk (Kd.R_below (by (with_reducible repeat (first | apply Kd.R_alloc | apply Kd.R_drewN | apply Kd.R_drew)); exact HO_22.out) hb)
             have n4_ := Aside0.mk (Kd.R_below (by (with_reducible repeat (first | apply Kd.R_alloc | apply Kd.R_drewN | apply Kd.R_drew)); exact HO_24.out) hb)
             have n5_ := Aside0.mk (Kd.R_below (by (with_reducible repeat (first | apply Kd.R_alloc | apply Kd.R_drewN | apply Kd.R_drew)); exact HO_26.out) hb)
             have n6_ := Aside0.mk (Kd.S_below (by (with_reducible repeat (first | apply Kd.S_alloc | apply Kd.S_drewN | apply Kd.S_drew)); exact HO_449000.out) hb)
             have n7_ := Aside0.mk (blk_below (g := gb441) (o := .cells #[.slice A0_0 l0_0.length c0_0] 25 (0, 0)) (by (with_reducible repeat (first | refine blk_drewN ?_ _ | refine blk_drew ?_ | refine blk_alloc ?_ _)); exact BK441.out) hb)
             have n8_ := Aside0.mk (blk_below (g := gb442) (o := .cells #[.slice A1_0 l1_0.length c1_0] 25 (0, 0)) (by (with_reducible repeat (first | refine blk_drewN ?_ _ | refine blk_drew ?_ | refine blk_alloc ?_ _)); exact BK442.out) hb)
             have n9_ := Aside0.mk (blk_below (g := gb448) (o := .cells #[.slice Ao41 t445.length co41] 25 (0, 0)) (by (with_reducible repeat (first | refine blk_drewN ?_ _ | refine blk_drew ?_ | refine blk_alloc ?_ _)); exact BK448.out) hb)
             have n10_ := Aside0.mk (below_step (by repeat (first | (with_reducible first | exact HB.out | apply below_alloc | apply pw_below_drewN | apply below_drew1 | refine below_set ?_ GE441.out | refine below_set ?_ GE442.out | refine below_set ?_ GE448.out) | exact HB.out)) hb)
             clear HO_8
             clear HO_16
             clear HO_20
             clear HO_22
             clear HO_24
             clear HO_26
             clear HO_449000
             clear BK441
             clear BK442
             clear BK448
             clear HB
             have HO_8 := n0_
             have HO_16 := n1_
             have HO_20 := n2_
             have HO_22 := n3_
             have HO_24 := n4_
             have HO_26 := n5_
             have HO_449000 := n6_
             have BK441 := n7_
             have BK442 := n8_
             have BK448 := n9_
             have HB := n10_
             clear n0_ n1_ n2_ n3_ n4_ n5_ n6_ n7_ n8_ n9_ n10_
             (try clear hb)
             (try clear hb2)
             (try clear hk)
             (try clear hi)
             refine hK.out _ _ ⟨(blk_cell BK448.out 0).trans rfl, (blk_cell BK441.out 0).trans rfl, (blk_cell BK442.out 0).trans rfl, (by first | exact own_string (P := Try.prog) Try.underlying22 Try.underlying5 Try.underlying9 (Kd.own_of_R HO_24.out) | exact own_string (P := Try.prog) Try.underlying22 Try.underlying5 Try.underlying9 (Kd.own_of_R (Kd.R_drewN HO_24.out _))), (by first | exact own_string (P := Try.prog) Try.underlying22 Try.underlying5 Try.underlying9 (Kd.own_of_R HO_26.out) | exact own_string (P := Try.prog) Try.underlying22 Try.underlying5 Try.underlying9 (Kd.own_of_R (Kd.R_drewN HO_26.out _)))⟩ (fun hHeld => ?_)
             clear hK K
             refine norm_ (a' := ?_) ?_ ?_
             rotate_left
             ·
              show Act.put _ (some 147) _ = _
              simp only [Act.put, sa_, s0_, s1_, i64_w, i32_w]
              rfl
             refine one_ (i := 24) (N := some 149) (b_ 42 33554431) rfl rfl (one_of HT_.out (by kernel_rfl)) (by decide) (fun K hK => ?_)
             refine goes_ Try.func27 (by kernel_rfl) rfl #[.agg #[.slice A0_0 l0_0.length c0_0]] (by rfl) rfl rfl (by (try simp only [List.map_toArray, List.map_cons, List.map_nil]); first | done | rfl | (simp only [List.length_drop, List.length_take]; rfl)) ?_
             with_reducible refine (millhandref23_Check.calls kj35 _ _ l0_0 t494 _ ?side1 ?side2 A103.out).mono ?_
             (case side1 => repeat (first | exact (Kd.C_below HR0_0.out HB.out) | (with_reducible refine Kd.C_alloc ?_ _) | (with_reducible refine Kd.C_drewN ?_ _) | (with_reducible refine Kd.C_drew ?_)))
             (case side2 => exact HC0_0.out)
             rintro e w116 ⟨rfl, hb⟩
             refine ⟨_, rfl, ?_⟩
             have n0_ := Aside0.mk (Kd.R_below (by (with_reducible repeat (first | apply Kd.R_alloc | apply Kd.R_drewN | apply Kd.R_drew)); exact HO_8.out) hb)
             have n1_ := Aside0.mk (Kd.R_below (by (with_reducible repeat (first | apply Kd.R_alloc | apply Kd.R_drewN | apply Kd.R_drew)); exact HO_16.out) hb)
             have n2_ := Aside0.mk (Kd.R_below (by (with_reducible repeat (first | apply Kd.R_alloc | apply Kd.R_drewN | apply Kd.R_drew)); exact HO_20.out) hb)
             have n3_ := Aside0.mk (Kd.R_below (by (with_reducible repeat (first | apply Kd.R_alloc | apply Kd.R_drewN | apply Kd.R_drew)); exact HO_22.out) hb)
             have n4_ := Aside0.mk (Kd.R_below (by (with_reducible repeat (first | apply Kd.R_alloc | apply Kd.R_drewN | apply Kd.R_drew)); exact HO_24.out) hb)
             have n5_ := Aside0.mk (Kd.R_below (by (with_reducible repeat (first | apply Kd.R_alloc | apply Kd.R_drewN | apply Kd.R_drew)); exact HO_26.out) hb)
             have n6_ := Aside0.mk (Kd.S_below (by (with_reducible repeat (first | apply Kd.S_alloc | apply Kd.S_drewN | apply Kd.S_drew)); exact HO_449000.out) hb)
             have n7_ := Aside0.mk (blk_below (g := gb441) (o := .cells #[.slice A0_0 l0_0.length c0_0] 25 (0, 0)) (by (with_reducible repeat (first | refine blk_drewN ?_ _ | refine blk_drew ?_ | refine blk_alloc ?_ _)); exact BK441.out) hb)
             have n8_ := Aside0.mk (blk_below (g := gb442) (o := .cells #[.slice A1_0 l1_0.length c1_0] 25 (0, 0)) (by (with_reducible repeat (first | refine blk_drewN ?_ _ | refine blk_drew ?_ | refine blk_alloc ?_ _)); exact BK442.out) hb)
             have n9_ := Aside0.mk (blk_below (g := gb448) (o := .cells #[.slice Ao41 t445.length co41] 25 (0, 0)) (by (with_reducible repeat (first | refine blk_drewN ?_ _ | refine blk_drew ?_ | refine blk_alloc ?_ _)); exact BK448.out) hb)
             have n10_ := Aside0.mk (below_step (by repeat (first | (with_reducible first | exact HB.out | apply below_alloc | apply pw_below_drewN | apply below_drew1 | refine below_set ?_ GE441.out | refine below_set ?_ GE442.out | refine below_set ?_ GE448.out) | exact HB.out)) hb)
             clear HO_8
             clear HO_16
             clear HO_20
             clear HO_22
             clear HO_24
             clear HO_26
             clear HO_449000
             clear BK441
             clear BK442
             clear BK448
             clear HB
             have HO_8 := n0_
             have HO_16 := n1_
             have HO_20 := n2_
             have HO_22 := n3_
             have HO_24 := n4_
             have HO_26 := n5_
             have HO_449000 := n6_
             have BK441 := n7_
             have BK442 := n8_
             have BK448 := n9_
             have HB := n10_
             clear n0_ n1_ n2_ n3_ n4_ n5_ n6_ n7_ n8_ n9_ n10_
             (try clear hb)
             (try clear hb2)
             (try clear hk)
             (try clear hi)
             refine hK.out _ _ ⟨(blk_cell BK448.out 0).trans rfl, (blk_cell BK441.out 0).trans rfl, (blk_cell BK442.out 0).trans rfl, (by first | exact own_string (P := Try.prog) Try.underlying22 Try.underlying5 Try.underlying9 (Kd.own_of_R HO_24.out) | exact own_string (P := Try.prog) Try.underlying22 Try.underlying5 Try.underlying9 (Kd.own_of_R (Kd.R_drewN HO_24.out _))), (by first | exact own_string (P := Try.prog) Try.underlying22 Try.underlying5 Try.underlying9 (Kd.own_of_R HO_26.out) | exact own_string (P := Try.prog) Try.underlying22 Try.underlying5 Try.underlying9 (Kd.own_of_R (Kd.R_drewN HO_26.out _)))⟩ (fun hHeld => ?_)
             clear hK K
             refine norm_ (a' := ?_) ?_ ?_
             rotate_left
             ·
              show Act.put _ (some 149) _ = _
              simp only [Act.put, sa_, s0_, s1_, i64_w, i32_w]
              rfl
             refine pA_ 25 150 ?_ (b_ 42 67108863) (any_of HT_.out (by kernel_rfl)) rfl rfl (fun _ _ _ h => h) (by rfl) ?_ ?_ ?_ ?_
             rotate_left
             ·
              intro w'
              go_simp
              with_reducible rfl
             rotate_left
             ·
              simp only [Act.put, sa_, s0_, s1_, i64_w, i32_w]
              rfl
             refine pA_ 26 151 ?_ (b_ 42 134217727) (any_of HT_.out (by kernel_rfl)) rfl rfl (fun _ _ _ h => h) (by rfl) ?_ ?_ ?_ ?_
             rotate_left
             ·
              intro w'
              go_simp
              with_reducible rfl
             rotate_left
             ·
              simp only [Act.put, sa_, s0_, s1_, i64_w, i32_w]
              rfl
             refine pA_ 27 152 ?_ (b_ 42 268435455) (any_of HT_.out (by kernel_rfl)) rfl rfl (fun _ _ _ h => h) (by rfl) ?_ ?_ ?_ ?_
             rotate_left
             ·
              intro w'
              go_simp
              with_reducible rfl
             rotate_left
             ·
              simp only [Act.put, sa_, s0_, s1_, i64_w, i32_w]
              rfl
             refine tA_ 28 153 ?_ (b_ 42 536870911) (take_ofW HT_.out HW_.out (by kernel_rfl)) rfl rfl (fun _ _ _ h => h) (by rfl) ?_ hHeld ?_ ?_ ?_
             rotate_left
             ·
              rintro w' ⟨s0, s1, s2, s3, s4⟩
              go_simp
              with_reducible rfl
             rotate_left
             ·
              simp only [Act.put, sa_, s0_, s1_, i64_w, i32_w]
              rfl
             refine tA_ 29 154 ?_ (b_ 42 1073741823) (take_ofW HT_.out HW_.out (by kernel_rfl)) rfl rfl (fun _ _ _ h => h) (by rfl) ?_ hHeld ?_ ?_ ?_
             rotate_left
             ·
              rintro w' ⟨s0, s1, s2, s3, s4⟩
              go_simp
              with_reducible rfl
             rotate_left
             ·
              simp only [Act.put, sa_, s0_, s1_, i64_w, i32_w]
              rfl
             refine tA_ 31 156 ?_ (b_ 42 3221225471) (take_ofW HT_.out HW_.out (by kernel_rfl)) rfl rfl (fun _ _ _ h => h) (by rfl) ?_ hHeld ?_ ?_ ?_
             rotate_left
             ·
              rintro w' ⟨s0, s1, s2, s3, s4⟩
              go_simp
              with_reducible rfl
             rotate_left
             ·
              simp only [Act.put, sa_, s0_, s1_, i64_w, i32_w]
              rfl
             refine tA_ 32 157 ?_ (b_ 42 7516192767) (take_ofW HT_.out HW_.out (by kernel_rfl)) rfl rfl (fun _ _ _ h => h) (by rfl) ?_ hHeld ?_ ?_ ?_
             rotate_left
             ·
              rintro w' ⟨s0, s1, s2, s3, s4⟩
              go_simp
              with_reducible rfl
             rotate_left
             ·
              simp only [Act.put, sa_, s0_, s1_, i64_w, i32_w]
              rfl
             refine one_ (i := 30) (N := some 155) (b_ 42 8589934591) rfl rfl (one_of HT_.out (by kernel_rfl)) (by decide) (fun K hK => ?_)
             refine goes_ Try.func28 (by kernel_rfl) rfl #[.agg #[.slice A0_0 l0_0.length c0_0], .agg #[.slice A1_0 l1_0.length c1_0]] (by rfl) rfl rfl (by (try simp only [List.map_toArray, List.map_cons, List.map_nil]); first | done | rfl | (simp only [List.length_drop, List.length_take]; rfl)) ?_
             with_reducible refine (dag_Same.calls kj35 _ _ l0_0 _ _ l1_0 t495 _ ?side1 ?side2 ?side3 ?side4 A105.out).mono ?_
             (case side1 => repeat (first | exact (Kd.C_below HR0_0.out HB.out) | (with_reducible refine Kd.C_alloc ?_ _) | (with_reducible refine Kd.C_drewN ?_ _) | (with_reducible refine Kd.C_drew ?_)))
             (case side2 => exact HC0_0.out)
             (case side3 => repeat (first | exact (Kd.C_below HR1_0.out HB.out) | (with_reducible refine Kd.C_alloc ?_ _) | (with_reducible refine Kd.C_drewN ?_ _) | (with_reducible refine Kd.C_drew ?_)))
             (case side4 => exact HC1_0.out)
             rintro e w117 ⟨rfl, hb⟩
             refine ⟨_, rfl, ?_⟩
             have n0_ := Aside0.mk (Kd.R_below (by (with_reducible repeat (first | apply Kd.R_alloc | apply Kd.R_drewN | apply Kd.R_drew)); exact HO_8.out) hb)
             have n1_ := Aside0.mk (Kd.R_below (by (with_reducible repeat (first | apply Kd.R_alloc | apply Kd.R_drewN | apply Kd.R_drew)); exact HO_16.out) hb)
             have n2_ := Aside0.mk (Kd.R_below (by (with_reducible repeat (first | apply Kd.R_alloc | apply Kd.R_drewN | apply Kd.R_drew)); exact HO_20.out) hb)
             have n3_ := Aside0.mk (Kd.R_below (by (with_reducible repeat (first | apply Kd.R_alloc | apply Kd.R_drewN | apply Kd.R_drew)); exact HO_22.out) hb)
             have n4_ := Aside0.mk (Kd.R_below (by (with_reducible repeat (first | apply Kd.R_alloc | apply Kd.R_drewN | apply Kd.R_drew)); exact HO_24.out) hb)
             have n5_ := Aside0.mk (Kd.R_below (by (with_reducible repeat (first | apply Kd.R_alloc | apply Kd.R_drewN | apply Kd.R_drew)); exact HO_26.out) hb)
             have n6_ := Aside0.mk (Kd.S_below (by (with_reducible repeat (first | apply Kd.S_alloc | apply Kd.S_drewN | apply Kd.S_drew)); exact HO_449000.out) hb)
             have n7_ := Aside0.mk (blk_below (g := gb441) (o := .cells #[.slice A0_0 l0_0.length c0_0] 25 (0, 0)) (by (with_reducible repeat (first | refine blk_drewN ?_ _ | refine blk_drew ?_ | refine blk_alloc ?_ _)); exact BK441.out) hb)
             have n8_ := Aside0.mk (blk_below (g := gb442) (o := .cells #[.slice A1_0 l1_0.length c1_0] 25 (0, 0)) (by (with_reducible repeat (first | refine blk_drewN ?_ _ | refine blk_drew ?_ | refine blk_alloc ?_ _)); exact BK442.out) hb)
             have n9_ := Aside0.mk (blk_below (g := gb448) (o := .cells #[.slice Ao41 t445.length co41] 25 (0, 0)) (by (with_reducible repeat (first | refine blk_drewN ?_ _ | refine blk_drew ?_ | refine blk_alloc ?_ _)); exact BK448.out) hb)
             have n10_ := Aside0.mk (below_step (by repeat (first | (with_reducible first | exact HB.out | apply below_alloc | apply pw_below_drewN | apply below_drew1 | refine below_set ?_ GE441.out | refine below_set ?_ GE442.out | refine below_set ?_ GE448.out) | exact HB.out)) hb)
             clear HO_8
             clear HO_16
             clear HO_20
             clear HO_22
             clear HO_24
             clear HO_26
             clear HO_449000
             clear BK441
             clear BK442
             clear BK448
             clear HB
             have HO_8 := n0_
             have HO_16 := n1_
             have HO_20 := n2_
             have HO_22 := n3_
             have HO_24 := n4_
             have HO_26 := n5_
             have HO_449000 := n6_
             have BK441 := n7_
             have BK442 := n8_
             have BK448 := n9_
             have HB := n10_
             clear n0_ n1_ n2_ n3_ n4_ n5_ n6_ n7_ n8_ n9_ n10_
             (try clear hb)
             (try clear hb2)
             (try clear hk)
             (try clear hi)
             refine hK.out _ _ ⟨(blk_cell BK448.out 0).trans rfl, (blk_cell BK441.out 0).trans rfl, (blk_cell BK442.out 0).trans rfl, (by first | exact own_string (P := Try.prog) Try.underlying22 Try.underlying5 Try.underlying9 (Kd.own_of_R HO_24.out) | exact own_string (P := Try.prog) Try.underlying22 Try.underlying5 Try.underlying9 (Kd.own_of_R (Kd.R_drewN HO_24.out _))), (by first | exact own_string (P := Try.prog) Try.underlying22 Try.underlying5 Try.underlying9 (Kd.own_of_R HO_26.out) | exact own_string (P := Try.prog) Try.underlying22 Try.underlying5 Try.underlying9 (Kd.own_of_R (Kd.R_drewN HO_26.out _)))⟩ (fun hHeld => ?_)
             clear hK K
             refine norm_ (a' := ?_) ?_ ?_
             rotate_left
             ·
              show Act.put _ (some 155) _ = _
              simp only [Act.put, sa_, s0_, s1_, i64_w, i32_w]
              rfl
             refine one_ (i := 33) (N := some 158) (b_ 42 17179869183) rfl rfl (one_of HT_.out (by kernel_rfl)) (by decide) (fun K hK => ?_)
             refine goes_ Try.func11 (by kernel_rfl) rfl #[.agg #[.slice A0_0 l0_0.length c0_0], .agg #[.slice A1_0 l1_0.length c1_0]] (by rfl) rfl rfl (by (try simp only [List.map_toArray, List.map_cons, List.map_nil]); first | done | rfl | (simp only [List.length_drop, List.length_take]; rfl)) ?_
             with_reducible refine (millhandref23_Same.calls kj35 _ _ l0_0 _ _ l1_0 t496 _ ?side1 ?side2 ?side3 ?side4 A106.out).mono ?_
             (case side1 => repeat (first | exact (Kd.C_below HR0_0.out HB.out) | (with_reducible refine Kd.C_alloc ?_ _) | (with_reducible refine Kd.C_drewN ?_ _) | (with_reducible refine Kd.C_drew ?_)))
             (case side2 => exact HC0_0.out)
             (case side3 => repeat (first | exact (Kd.C_below HR1_0.out HB.out) | (with_reducible refine Kd.C_alloc ?_ _) | (with_reducible refine Kd.C_drewN ?_ _) | (with_reducible refine Kd.C_drew ?_)))
             (case side4 => exact HC1_0.out)
             rintro e w118 ⟨rfl, hb⟩
             refine ⟨_, rfl, ?_⟩
             have n0_ := Aside0.mk (Kd.R_below (by (with_reducible repeat (first | apply Kd.R_alloc | apply Kd.R_drewN | apply Kd.R_drew)); exact HO_8.out) hb)
             have n1_ := Aside0.mk (Kd.R_below (by (with_reducible repeat (first | apply Kd.R_alloc | apply Kd.R_drewN | apply Kd.R_drew)); exact HO_16.out) hb)
             have n2_ := Aside0.mk (Kd.R_below (by (with_reducible repeat (first | apply Kd.R_alloc | apply Kd.R_drewN | apply Kd.R_drew)); exact HO_20.out) hb)
             have n3_ := Aside0.mk (Kd.R_below (by (with_reducible repeat (first | apply Kd.R_alloc | apply Kd.R_drewN | apply Kd.R_drew)); exact HO_22.out) hb)
             have n4_ := Aside0.mk (Kd.R_below (by (with_reducible repeat (first | apply Kd.R_alloc | apply Kd.R_drewN | apply Kd.R_drew)); exact HO_24.out) hb)
             have n5_ := Aside0.mk (Kd.R_below (by (with_reducible repeat (first | apply Kd.R_alloc | apply Kd.R_drewN | apply Kd.R_drew)); exact HO_26.out) hb)
             have n6_ := Aside0.mk (Kd.S_below (by (with_reducible repeat (first | apply Kd.S_alloc | apply Kd.S_drewN | apply Kd.S_drew)); exact HO_449000.out) hb)
             have n7_ := Aside0.mk (blk_below (g := gb441) (o := .cells #[.slice A0_0 l0_0.length c0_0] 25 (0, 0)) (by (with_reducible repeat (first | refine blk_drewN ?_ _ | refine blk_drew ?_ | refine blk_alloc ?_ _)); exact BK441.out) hb)
             have n8_ := Aside0.mk (blk_below (g := gb442) (o := .cells #[.slice A1_0 l1_0.length c1_0] 25 (0, 0)) (by (with_reducible repeat (first | refine blk_drewN ?_ _ | refine blk_drew ?_ | refine blk_alloc ?_ _)); exact BK442.out) hb)
             have n9_ := Aside0.mk (blk_below (g := gb448) (o := .cells #[.slice Ao41 t445.length co41] 25 (0, 0)) (by (with_reducible repeat (first | refine blk_drewN ?_ _ | refine blk_drew ?_ | refine blk_alloc ?_ _)); exact BK448.out) hb)
             have n10_ := Aside0.mk (below_step (by repeat (first | (with_reducible first | exact HB.out | apply below_alloc | apply pw_below_drewN | apply below_drew1 | refine below_set ?_ GE441.out | refine below_set ?_ GE442.out | refine below_set ?_ GE448.out) | exact HB.out)) hb)
             clear HO_8
             clear HO_16
             clear HO_20
             clear HO_22
             clear HO_24
             clear HO_26
             clear HO_449000
             clear BK441
             clear BK442
             clear BK448
             clear HB
             have HO_8 := n0_
             have HO_16 := n1_
             have HO_20 := n2_
             have HO_22 := n3_
             have HO_24 := n4_
             have HO_26 := n5_
             have HO_449000 := n6_
             have BK441 := n7_
             have BK442 := n8_
             have BK448 := n9_
             have HB := n10_
             clear n0_ n1_ n2_ n3_ n4_ n5_ n6_ n7_ n8_ n9_ n10_
             (try clear hb)
             (try clear hb2)
             (try clear hk)
             (try clear hi)
             refine hK.out _ _ ⟨(blk_cell BK448.out 0).trans rfl, (blk_cell BK441.out 0).trans rfl, (blk_cell BK442.out 0).trans rfl, (by first | exact own_string (P := Try.prog) Try.underlying22 Try.underlying5 Try.underlying9 (Kd.own_of_R HO_24.out) | exact own_string (P := Try.prog) Try.underlying22 Try.underlying5 Try.underlying9 (Kd.own_of_R (Kd.R_drewN HO_24.out _))), (by first | exact own_string (P := Try.prog) Try.underlying22 Try.underlying5 Try.underlying9 (Kd.own_of_R HO_26.out) | exact own_string (P := Try.prog) Try.underlying22 Try.underlying5 Try.underlying9 (Kd.own_of_R (Kd.R_drewN HO_26.out _)))⟩ (fun hHeld => ?_)
             clear hK K
             refine norm_ (a' := ?_) ?_ ?_
             rotate_left
             ·
              show Act.put _ (some 158) _ = _
              simp only [Act.put, sa_, s0_, s1_, i64_w, i32_w]
              rfl
             refine pA_ 34 159 ?_ (b_ 42 34359738367) (any_of HT_.out (by kernel_rfl)) rfl rfl (fun _ _ _ h => h) (by rfl) ?_ ?_ ?_ ?_
             rotate_left
             ·
              intro w'
              go_simp
              with_reducible rfl
             rotate_left
             ·
              simp only [Act.put, sa_, s0_, s1_, i64_w, i32_w]
              rfl
             refine pA_ 35 160 ?_ (b_ 42 68719476735) (any_of HT_.out (by kernel_rfl)) rfl rfl (fun _ _ _ h => h) (by rfl) ?_ ?_ ?_ ?_
             rotate_left
             ·
              intro w'
              go_simp
              with_reducible rfl
             rotate_left
             ·
              simp only [Act.put, sa_, s0_, s1_, i64_w, i32_w]
              rfl
             refine pA_ 36 161 ?_ (b_ 42 137438953471) (any_of HT_.out (by kernel_rfl)) rfl rfl (fun _ _ _ h => h) (by rfl) ?_ ?_ ?_ ?_
             rotate_left
             ·
              intro w'
              go_simp
              with_reducible rfl
             rotate_left
             ·
              simp only [Act.put, sa_, s0_, s1_, i64_w, i32_w]
              rfl
             refine tA_ 37 162 ?_ (b_ 42 274877906943) (take_ofW HT_.out HW_.out (by kernel_rfl)) rfl rfl (fun _ _ _ h => h) (by rfl) ?_ hHeld ?_ ?_ ?_
             rotate_left
             ·
              rintro w' ⟨s0, s1, s2, s3, s4⟩
              go_simp
              with_reducible rfl
             rotate_left
             ·
              simp only [Act.put, sa_, s0_, s1_, i64_w, i32_w]
              rfl
             refine tA_ 38 163 ?_ (b_ 42 549755813887) (take_ofW HT_.out HW_.out (by kernel_rfl)) rfl rfl (fun _ _ _ h => h) (by rfl) ?_ hHeld ?_ ?_ ?_
             rotate_left
             ·
              rintro w' ⟨s0, s1, s2, s3, s4⟩
              go_simp
              with_reducible rfl
             rotate_left
             ·
              simp only [Act.put, sa_, s0_, s1_, i64_w, i32_w]
              rfl
             refine one_ (i := 39) (N := some 164) (b_ 42 1099511627775) rfl rfl (one_of HT_.out (by kernel_rfl)) (by decide) (fun K hK => ?_)
             refine goes_ Try.func28 (by kernel_rfl) rfl #[.agg #[.slice Ao41 t445.length co41], .agg #[.slice A0_0 l0_0.length c0_0]] (by rfl) rfl rfl (by (try simp only [List.map_toArray, List.map_cons, List.map_nil]); first | done | rfl | (simp only [List.length_drop, List.length_take]; rfl)) ?_
             with_reducible refine (dag_Same.calls kj35 _ _ t445 _ _ l0_0 t497 _ ?side1 ?side2 ?side3 ?side4 A108.out).mono ?_
             (case side1 => repeat (first | exact (Kd.S_reads' HO_449000.out).2.2 | (with_reducible refine Kd.C_alloc ?_ _) | (with_reducible refine Kd.C_drewN ?_ _) | (with_reducible refine Kd.C_drew ?_)))
             (case side2 => exact (Kd.S_reads' HO_449000.out).2.1)
             (case side3 => repeat (first | exact (Kd.C_below HR0_0.out HB.out) | (with_reducible refine Kd.C_alloc ?_ _) | (with_reducible refine Kd.C_drewN ?_ _) | (with_reducible refine Kd.C_drew ?_)))
             (case side4 => exact HC0_0.out)
             rintro e w119 ⟨rfl, hb⟩
             refine ⟨_, rfl, ?_⟩
             have n0_ := Aside0.mk (Kd.R_below (by (with_reducible repeat (first | apply Kd.R_alloc | apply Kd.R_drewN | apply Kd.R_drew)); exact HO_8.out) hb)
             have n1_ := Aside0.mk (Kd.R_below (by (with_reducible repeat (first | apply Kd.R_alloc | apply Kd.R_drewN | apply Kd.R_drew)); exact HO_16.out) hb)
             have n2_ := Aside0.mk (Kd.R_below (by (with_reducible repeat (first | apply Kd.R_alloc | apply Kd.R_drewN | apply Kd.R_drew)); exact HO_20.out) hb)
             have n3_ := Aside0.mk (Kd.R_below (by (with_reducible repeat (first | apply Kd.R_alloc | apply Kd.R_drewN | apply Kd.R_drew)); exact HO_22.out) hb)
             have n4_ := Aside0.mk (Kd.R_below (by (with_reducible repeat (first | apply Kd.R_alloc | apply Kd.R_drewN | apply Kd.R_drew)); exact HO_24.out) hb)
             have n5_ := Aside0.mk (Kd.R_below (by (with_reducible repeat (first | apply Kd.R_alloc | apply Kd.R_drewN | apply Kd.R_drew)); exact HO_26.out) hb)
             have n6_ := Aside0.mk (Kd.S_below (by (with_reducible repeat (first | apply Kd.S_alloc | apply Kd.S_drewN | apply Kd.S_drew)); exact HO_449000.out) hb)
             have n7_ := Aside0.mk (blk_below (g := gb441) (o := .cells #[.slice A0_0 l0_0.length c0_0] 25 (0, 0)) (by (with_reducible repeat (first | refine blk_drewN ?_ _ | refine blk_drew ?_ | refine blk_alloc ?_ _)); exact BK441.out) hb)
             have n8_ := Aside0.mk (blk_below (g := gb442) (o := .cells #[.slice A1_0 l1_0.length c1_0] 25 (0, 0)) (by (with_reducible repeat (first | refine blk_drewN ?_ _ | refine blk_drew ?_ | refine blk_alloc ?_ _)); exact BK442.out) hb)
             have n9_ := Aside0.mk (blk_below (g := gb448) (o := .cells #[.slice Ao41 t445.length co41] 25 (0, 0)) (by (with_reducible repeat (first | refine blk_drewN ?_ _ | refine blk_drew ?_ | refine blk_alloc ?_ _)); exact BK448.out) hb)
             have n10_ := Aside0.mk (below_step (by repeat (first | (with_reducible first | exact HB.out | apply below_alloc | apply pw_below_drewN | apply below_drew1 | refine below_set ?_ GE441.out | refine below_set ?_ GE442.out | refine below_set ?_ GE448.out) | exact HB.out)) hb)
             clear HO_8
             clear HO_16
             clear HO_20
             clear HO_22
             clear HO_24
             clear HO_26
             clear HO_449000
             clear BK441
             clear BK442
             clear BK448
             clear HB
             have HO_8 := n0_
             have HO_16 := n1_
             have HO_20 := n2_
             have HO_22 := n3_
             have HO_24 := n4_
             have HO_26 := n5_
             have HO_449000 := n6_
             have BK441 := n7_
             have BK442 := n8_
             have BK448 := n9_
             have HB := n10_
             clear n0_ n1_ n2_ n3_ n4_ n5_ n6_ n7_ n8_ n9_ n10_
             (try clear hb)
             (try clear hb2)
             (try clear hk)
             (try clear hi)
             refine hK.out _ _ ⟨(blk_cell BK448.out 0).trans rfl, (blk_cell BK441.out 0).trans rfl, (blk_cell BK442.out 0).trans rfl, (by first | exact own_string (P := Try.prog) Try.underlying22 Try.underlying5 Try.underlying9 (Kd.own_of_R HO_24.out) | exact own_string (P := Try.prog) Try.underlying22 Try.underlying5 Try.underlying9 (Kd.own_of_R (Kd.R_drewN HO_24.out _))), (by first | exact own_string (P := Try.prog) Try.underlying22 Try.underlying5 Try.underlying9 (Kd.own_of_R HO_26.out) | exact own_string (P := Try.prog) Try.underlying22 Try.underlying5 Try.underlying9 (Kd.own_of_R (Kd.R_drewN HO_26.out _)))⟩ (fun hHeld => ?_)
             clear hK K
             refine norm_ (a' := ?_) ?_ ?_
             rotate_left
             ·
              show Act.put _ (some 164) _ = _
              simp only [Act.put, sa_, s0_, s1_, i64_w, i32_w]
              rfl
             refine pA_ 40 165 ?_ (b_ 42 2199023255551) (any_of HT_.out (by kernel_rfl)) rfl rfl (fun _ _ _ h => h) (by rfl) ?_ ?_ ?_ ?_
             rotate_left
             ·
              intro w'
              go_simp
              with_reducible rfl
             rotate_left
             ·
              simp only [Act.put, sa_, s0_, s1_, i64_w, i32_w]
              rfl
             refine pA_ 41 29 ?_ (b_ 42 4398046511103) (any_of HT_.out (by kernel_rfl)) rfl rfl (fun _ _ _ h => h) (by rfl) ?_ ?_ ?_ ?_
             rotate_left
             ·
              intro w'
              go_simp
              with_reducible rfl
             rotate_left
             ·
              simp only [Act.put, sa_, s0_, s1_, i64_w, i32_w]
              rfl
             refine done_ (done_of HT_.out (by kernel_rfl)) ?_
             try go_wp2
             go_meet
             case rel => exact ⟨_, (t497), (by first | rfl | (simp; done) | (simp [*]; done)), H', ⟨by have := HJ3.out; have := HJ35.out; first | omega | exact Nat.le_refl _⟩, ⟨by (with_reducible repeat (first | apply Kd.R_alloc | apply Kd.R_drewN | apply Kd.R_drew)); exact Kd.R_mono HO_8.out (fun _ hk => hk.1)⟩, ⟨by (with_reducible repeat (first | apply Kd.R_alloc | apply Kd.R_drewN | apply Kd.R_drew)); exact Kd.R_mono HO_16.out (fun _ hk => by first | exact hk.1 | exact hk.2.2)⟩, ⟨by (with_reducible repeat (first | apply Kd.S_alloc | apply Kd.S_drewN | apply Kd.S_drew)); exact Kd.S_mono HO_449000.out (fun _ hk => by first | exact ⟨hk.1, hk.2.1⟩ | exact ⟨hk.2.2.2, hk.1⟩)⟩, ⟨by (with_reducible repeat (first | refine blk_drewN ?_ _ | refine blk_drew ?_ | refine blk_alloc ?_ _)); exact BK441.out⟩, ⟨by (with_reducible repeat (first | refine blk_drewN ?_ _ | refine blk_drew ?_ | refine blk_alloc ?_ _)); exact BK442.out⟩, ⟨by (with_reducible repeat (first | refine blk_drewN ?_ _ | refine blk_drew ?_ | refine blk_alloc ?_ _)); exact BK448.out⟩, ⟨by repeat (first | (with_reducible first | exact HB.out | apply below_alloc | apply pw_below_drewN | apply below_drew1 | refine below_set ?_ GE441.out | refine below_set ?_ GE442.out | refine below_set ?_ GE448.out) | exact HB.out)⟩⟩
            ·
             exact absurd (same_true HTS.out A105.out A106.out) c107
           ·
            exact absurd (check_true HTS.out HE.out.1 A102.out A103.out) c104
          ·
           exact absurd (HE.out.2.2.2.2.2.2.2.2.2.2) c101
         ·
          exact absurd (congrArg (fun x => (strOfNums x).toList) HE.out.2.2.2.2.2.2.2.2.2.1) c100
        ·
         exact absurd (HE.out.2.2.2.2.2.2.2.2.1) c99
       ·
        exact absurd (num_true HE.out.2.2.2.2.2.2.2.1 A97.out) c98
      case rest =>
       clear HC96
       try clear c2
       try clear p2
       try clear c9
       try clear c26
       try clear c98
       try clear c99
       try clear c99b0
       try clear c99b1
       obtain ⟨kq, x29_95, rfl, HA, HJ95, HO_8, HO_16, HO_449000, BK441, BK442, BK448, HB⟩ := hcut
       cases kq with
       | zero => exact absurd HA.out (by simp [millhandlaw23_DagTells.j2])
       | succ kj95 =>
        have H := HA.out
        clear HA
        simp only [millhandlaw23_DagTells.j2] at H
        have H' := Aside0.mk H
        clear H
        go_wp2
        go_loopg [30] kj95 (fun kq v30 w' => ∃ (x8_4 : List Int) (x30_4 : Int), v30 = .int .i64 x30_4 ∧ Aside0 (millhandlaw23_DagTells.l0 kq x8_4 t465 x28_35 x29_95 x30_4 l0_0 t445 = some r) ∧ Aside0 (kq ≤ kj95) ∧ Aside0 (Kd.R (Kd.int .i64) 3 w' w.heap.size (fun k_ => some k_ ≠ (v466 : Value).ownBlock) v450 x8_4) ∧ Aside0 (Kd.R (Kd.int .i64) 3 w' w.heap.size (fun k_ => some k_ ≠ (v450 : Value).ownBlock) v466 t465) ∧ Aside0 (Kd.S k40 40 w' w.heap.size (fun k_ => some k_ ≠ (v450 : Value).ownBlock ∧ some k_ ≠ (v466 : Value).ownBlock) (.slice Ao41 t445.length co41) t445) ∧ Aside0 (w'.heap[gb441]? = some (.cells #[(.slice A0_0 l0_0.length c0_0)] 25 (0, 0))) ∧ Aside0 (w'.heap[gb442]? = some (.cells #[(.slice A1_0 l1_0.length c1_0)] 25 (0, 0))) ∧ Aside0 (w'.heap[gb448]? = some (.cells #[(.slice Ao41 t445.length co41)] 25 (0, 0))) ∧ Aside0 (Below w.heap.size w w'))
        case atStart => exact ⟨(t449), (0), (by first | rfl | (simp; done) | (simp [*]; done)), H', ⟨Nat.le_refl _⟩, ⟨by (with_reducible repeat (first | apply Kd.R_alloc | apply Kd.R_drewN | apply Kd.R_drew)); exact HO_8.out⟩, ⟨by (with_reducible repeat (first | apply Kd.R_alloc | apply Kd.R_drewN | apply Kd.R_drew)); exact HO_16.out⟩, ⟨by (with_reducible repeat (first | apply Kd.S_alloc | apply Kd.S_drewN | apply Kd.S_drew)); exact HO_449000.out⟩, ⟨by (with_reducible repeat (first | refine blk_drewN ?_ _ | refine blk_drew ?_ | refine blk_alloc ?_ _)); exact BK441.out⟩, ⟨by (with_reducible repeat (first | refine blk_drewN ?_ _ | refine blk_drew ?_ | refine blk_alloc ?_ _)); exact BK442.out⟩, ⟨by (with_reducible repeat (first | refine blk_drewN ?_ _ | refine blk_drew ?_ | refine blk_alloc ?_ _)); exact BK448.out⟩, ⟨by repeat (first | (with_reducible first | exact HB.out | apply below_alloc | apply pw_below_drewN | apply below_drew1 | refine below_set ?_ GE441.out | refine below_set ?_ GE442.out | refine below_set ?_ GE448.out) | exact HB.out)⟩⟩
        case round =>
         clear H'
         try clear c1
         try clear c2
         try clear p2
         try clear c9
         try clear c26
         try clear c98
         try clear c99
         try clear c99b0
         try clear c99b1
         try clear p2
         obtain ⟨x8_4, x30_4, rfl, HA, HK4, HO_8, HO_16, HO_449000, BK441, BK442, BK448, HB⟩ := hrel
         cases gk with
         | zero => exact absurd HA.out (by simp [millhandlaw23_DagTells.l0])
         | succ k4 =>
          have H := HA.out
          clear HA
          simp only [millhandlaw23_DagTells.l0] at H
          by_cases c156 : x30_4 < (x8_4.length : Int)
          ·
           rw [if_pos c156] at H
           have c156b0 : decide (x30_4 < (x8_4.length : Int)) = true := decide_eq_true c156
           clear c156
           by_cases c157 : 0 ≤ x30_4
           ·
            rw [if_pos c157] at H
            have c157b0 : decide (0 ≤ x30_4) = true := decide_eq_true c157
            clear c157
            obtain ⟨y498, hy498⟩ : ∃ y_ : List Int, y_ = (x8_4.set (x30_4 : Int).toNat (-77)) := ⟨_, rfl⟩
            replace H : (millhandlaw23_DagTells.l0 k4 y498 t465 x28_35 x29_95 (wrap64 (x30_4 + 1)) l0_0 t445) = some r := by first | (rw [hy498]; with_reducible exact H) | (have H2_ := (Option.bind_some _ _).symm.trans H; rw [hy498]; with_reducible exact H2_) | (have H2_ := (Option.bind_some _ _).symm.trans H; with_reducible exact H2_) | with_reducible exact H | (rw [hy498]; exact H) | exact H
            have Ny498 := Aside0.mk hy498
            clear hy498
            have H' := Aside0.mk H
            clear H
            obtain ⟨Ao159, co159, eo159⟩ := Kd.R_slice HO_8.out
            subst eo159
            have p158 : 0 ≤ (x30_4 : Int) := of_decide_eq_true (by first | (with_reducible assumption) | assumption)
            have q158 : (x30_4 : Int) < ((x8_4.length : Int) : Int) := of_decide_eq_true (by first | (with_reducible assumption) | assumption)
            obtain ⟨go158, co158, eo158, gb158, gl158, cl158, HG158⟩ := Kd.R_form HO_8.out (by omega)
            (first | cases eo158 | (injection eo158 with ea_ en_ ec_; (first | subst ea_ | (injection ea_ with ea_; subst ea_)); subst ec_; clear en_))
            have GB158 := Aside0.mk gb158
            have GG158 := Aside0.mk HG158
            clear gb158 gl158 HG158
            obtain ⟨hx158_0, hf158_0⟩ := Kd.R_celln 0 HO_8.out (x30_4 : Int) p158 q158
            replace p158 := eq_true p158
            replace q158 := eq_true q158
            have HP160 := Kd.R_putg HO_8.out (x30_4 : Int) (-77)
            go_wp2_with (first | ((with_reducible refine gate_store (t := 3) (p := 174) rfl ?_); refine store_event (t := 3) (p := 174) (v := ?vo_w161) (w1 := (wr.setCell ⟨go158, (x30_4 : Int).toNat, none⟩ (.int .i64 (-77)))) ?hg ?ho ?hn ?hr ?_; (case ho => rfl); (case hg => rfl); (case hn => rfl); (case hr => first | (go_simp; done) | (go_simp; rfl)); intro w161 hw; have hg : wr.grownBy w161 (some go158) := (by rw [hw]; exact HP160.2); have hp_ : Kd.R (Kd.int .i64) 3 w161 w.heap.size (fun k_ => some k_ ≠ (v466 : Value).ownBlock) (.slice (some ⟨go158, 0, none⟩) x8_4.length co159) y498 := (by rw [hw, Ny498.out]; exact HP160.1); clear HP160; have n0_ := Aside0.mk (hp_); have n1_ := Aside0.mk (Kd.R_after (v := (.slice (some ⟨go158, 0, none⟩) x8_4.length co159)) (v1 := (.slice (some ⟨go158, 0, none⟩) x8_4.length co159)) (ok := (fun _ => True)) (by (with_reducible repeat (first | apply Kd.R_alloc | apply Kd.R_drewN | apply Kd.R_drew)); exact Kd.R_mono HO_16.out (fun _ hk => ⟨trivial, hk⟩)) hg (.inl rfl)); have n2_ := Aside0.mk (Kd.S_after (v := (.slice (some ⟨go158, 0, none⟩) x8_4.length co159)) (v1 := (.slice (some ⟨go158, 0, none⟩) x8_4.length co159)) (ok := (fun k_ => some k_ ≠ (v466 : Value).ownBlock)) (by (with_reducible repeat (first | apply Kd.S_alloc | apply Kd.S_drewN | apply Kd.S_drew)); exact Kd.S_mono HO_449000.out (fun _ hk => ⟨hk.2, hk.1⟩)) hg (.inl rfl)); have n3_ := Aside0.mk (blk_grown (g := gb441) (o := .cells #[.slice A0_0 l0_0.length c0_0] 25 (0, 0)) (by (with_reducible repeat (first | refine blk_drewN ?_ _ | refine blk_drew ?_ | refine blk_alloc ?_ _)); exact BK441.out) hg (Kd.R_ne HO_8.out BK441.out (by decide))); have n4_ := Aside0.mk (blk_grown (g := gb442) (o := .cells #[.slice A1_0 l1_0.length c1_0] 25 (0, 0)) (by (with_reducible repeat (first | refine blk_drewN ?_ _ | refine blk_drew ?_ | refine blk_alloc ?_ _)); exact BK442.out) hg (Kd.R_ne HO_8.out BK442.out (by decide))); have n5_ := Aside0.mk (blk_grown (g := gb448) (o := .cells #[.slice Ao41 t445.length co41] 25 (0, 0)) (by (with_reducible repeat (first | refine blk_drewN ?_ _ | refine blk_drew ?_ | refine blk_alloc ?_ _)); exact BK448.out) hg (Kd.R_ne HO_8.out BK448.out (by decide))); have n6_ := Aside0.mk ((by rw [hw]; exact below_set (HB.out) GB158.out : Below w.heap.size w w161)); clear HO_8; clear HO_16; clear HO_449000; clear BK441; clear BK442; clear BK448; clear HB; have HO_8 := n0_; have HO_16 := n1_; have HO_449000 := n2_; have BK441 := n3_; have BK442 := n4_; have BK448 := n5_; have HB := n6_; clear n0_ n1_ n2_ n3_ n4_ n5_ n6_; clear hg hw hp_))
            go_roundg k4
            case measure => have := HJ3.out; have := HJ35.out; have := HJ95.out; have := HK4.out; omega
            case rel => exact ⟨(y498), (wrap64 (x30_4 + 1)), (by first | rfl | (simp; done) | (simp [*]; done)), H', ⟨by have := HJ3.out; have := HJ35.out; have := HJ95.out; have := HK4.out; omega⟩, ⟨by (with_reducible repeat (first | apply Kd.R_alloc | apply Kd.R_drewN | apply Kd.R_drew)); exact HO_8.out⟩, ⟨by (with_reducible repeat (first | apply Kd.R_alloc | apply Kd.R_drewN | apply Kd.R_drew)); exact Kd.R_mono HO_16.out (fun _ hk => hk.2)⟩, ⟨by (with_reducible repeat (first | apply Kd.S_alloc | apply Kd.S_drewN | apply Kd.S_drew)); exact Kd.S_mono HO_449000.out (fun _ hk => ⟨hk.2, hk.1⟩)⟩, ⟨by (with_reducible repeat (first | refine blk_drewN ?_ _ | refine blk_drew ?_ | refine blk_alloc ?_ _)); exact BK441.out⟩, ⟨by (with_reducible repeat (first | refine blk_drewN ?_ _ | refine blk_drew ?_ | refine blk_alloc ?_ _)); exact BK442.out⟩, ⟨by (with_reducible repeat (first | refine blk_drewN ?_ _ | refine blk_drew ?_ | refine blk_alloc ?_ _)); exact BK448.out⟩, ⟨by repeat (first | (with_reducible first | exact HB.out | apply below_alloc | apply pw_below_drewN | apply below_drew1 | refine below_set ?_ GE441.out | refine below_set ?_ GE442.out | refine below_set ?_ GE448.out) | exact HB.out)⟩⟩
           ·
            rw [if_neg c157] at H
            exact absurd H (by simp)
          ·
           rw [if_neg c156] at H
           have c156b0 : decide (x30_4 < (x8_4.length : Int)) = false := decide_eq_false c156
           clear c156
           have H' := Aside0.mk H
           clear H
           obtain ⟨Ao162, co162, eo162⟩ := Kd.R_slice HO_8.out
           subst eo162
           go_wp2
           go_loopg [31] k4 (fun kq v31 w' => ∃ (x16_5 : List Int) (x31_5 : Int), v31 = .int .i64 x31_5 ∧ Aside0 (millhandlaw23_DagTells.l1 kq x16_5 x28_35 x29_95 x31_5 l0_0 t445 = some r) ∧ Aside0 (kq ≤ k4) ∧ Aside0 (Kd.R (Kd.int .i64) 3 w' w.heap.size (fun _ => True) v466 x16_5) ∧ Aside0 (Kd.S k40 40 w' w.heap.size (fun k_ => some k_ ≠ (v466 : Value).ownBlock) (.slice Ao41 t445.length co41) t445) ∧ Aside0 (w'.heap[gb441]? = some (.cells #[(.slice A0_0 l0_0.length c0_0)] 25 (0, 0))) ∧ Aside0 (w'.heap[gb442]? = some (.cells #[(.slice A1_0 l1_0.length c1_0)] 25 (0, 0))) ∧ Aside0 (w'.heap[gb448]? = some (.cells #[(.slice Ao41 t445.length co41)] 25 (0, 0))) ∧ Aside0 (Below w.heap.size w w'))
           case atStart => exact ⟨(t465), (0), (by first | rfl | (simp; done) | (simp [*]; done)), H', ⟨Nat.le_refl _⟩, ⟨by (with_reducible repeat (first | apply Kd.R_alloc | apply Kd.R_drewN | apply Kd.R_drew)); exact Kd.R_mono HO_16.out (fun _ hk => trivial)⟩, ⟨by (with_reducible repeat (first | apply Kd.S_alloc | apply Kd.S_drewN | apply Kd.S_drew)); exact Kd.S_mono HO_449000.out (fun _ hk => hk.2)⟩, ⟨by (with_reducible repeat (first | refine blk_drewN ?_ _ | refine blk_drew ?_ | refine blk_alloc ?_ _)); exact BK441.out⟩, ⟨by (with_reducible repeat (first | refine blk_drewN ?_ _ | refine blk_drew ?_ | refine blk_alloc ?_ _)); exact BK442.out⟩, ⟨by (with_reducible repeat (first | refine blk_drewN ?_ _ | refine blk_drew ?_ | refine blk_alloc ?_ _)); exact BK448.out⟩, ⟨by repeat (first | (with_reducible first | exact HB.out | apply below_alloc | apply pw_below_drewN | apply below_drew1 | refine below_set ?_ GE441.out | refine below_set ?_ GE442.out | refine below_set ?_ GE448.out) | exact HB.out)⟩⟩
           case round =>
            clear H'
            try clear c1
            try clear p1
            try clear q1
            try clear hx1
            try clear c2
            try clear p2
            try clear p6
            try clear c9
            try clear c15
            try clear p15
            try clear q15
            try clear hx15
            try clear hf15
            try clear c26
            try clear p64
            try clear c98
            try clear c99
            try clear c99b0
            try clear c99b1
            try clear c156
            try clear c156b0
            try clear c157
            try clear c157b0
            try clear p158
            try clear q158
            try clear hx158
            try clear hf158
            try clear hx158_0
            try clear p158
            try clear p2
            try clear q158
            obtain ⟨x16_5, x31_5, rfl, HA, HK5, HO_16, HO_449000, BK441, BK442, BK448, HB⟩ := hrel
            cases gk with
            | zero => exact absurd HA.out (by simp [millhandlaw23_DagTells.l1])
            | succ k5 =>
             have H := HA.out
             clear HA
             simp only [millhandlaw23_DagTells.l1] at H
             by_cases c163 : x31_5 < (x16_5.length : Int)
             ·
              rw [if_pos c163] at H
              have c163b0 : decide (x31_5 < (x16_5.length : Int)) = true := decide_eq_true c163
              clear c163
              by_cases c164 : 0 ≤ x31_5
              ·
               rw [if_pos c164] at H
               have c164b0 : decide (0 ≤ x31_5) = true := decide_eq_true c164
               clear c164
               obtain ⟨y499, hy499⟩ : ∃ y_ : List Int, y_ = (x16_5.set (x31_5 : Int).toNat (-77)) := ⟨_, rfl⟩
               replace H : (millhandlaw23_DagTells.l1 k5 y499 x28_35 x29_95 (wrap64 (x31_5 + 1)) l0_0 t445) = some r := by first | (rw [hy499]; with_reducible exact H) | (have H2_ := (Option.bind_some _ _).symm.trans H; rw [hy499]; with_reducible exact H2_) | (have H2_ := (Option.bind_some _ _).symm.trans H; with_reducible exact H2_) | with_reducible exact H | (rw [hy499]; exact H) | exact H
               have Ny499 := Aside0.mk hy499
               clear hy499
               have H' := Aside0.mk H
               clear H
               obtain ⟨Ao166, co166, eo166⟩ := Kd.R_slice HO_16.out
               subst eo166
               have p165 : 0 ≤ (x31_5 : Int) := of_decide_eq_true (by first | (with_reducible assumption) | assumption)
               have q165 : (x31_5 : Int) < ((x16_5.length : Int) : Int) := of_decide_eq_true (by first | (with_reducible assumption) | assumption)
               obtain ⟨go165, co165, eo165, gb165, gl165, cl165, HG165⟩ := Kd.R_form HO_16.out (by omega)
               (first | cases eo165 | (injection eo165 with ea_ en_ ec_; (first | subst ea_ | (injection ea_ with ea_; subst ea_)); subst ec_; clear en_))
               have GB165 := Aside0.mk gb165
               have GG165 := Aside0.mk HG165
               clear gb165 gl165 HG165
               obtain ⟨hx165_0, hf165_0⟩ := Kd.R_celln 0 HO_16.out (x31_5 : Int) p165 q165
               replace p165 := eq_true p165
               replace q165 := eq_true q165
               have HP167 := Kd.R_putg HO_16.out (x31_5 : Int) (-77)
               go_wp2_with (first | ((with_reducible refine gate_store (t := 3) (p := 183) rfl ?_); refine store_event (t := 3) (p := 183) (v := ?vo_w168) (w1 := (wr.setCell ⟨go165, (x31_5 : Int).toNat, none⟩ (.int .i64 (-77)))) ?hg ?ho ?hn ?hr ?_; (case ho => rfl); (case hg => rfl); (case hn => rfl); (case hr => first | (go_simp; done) | (go_simp; rfl)); intro w168 hw; have hg : wr.grownBy w168 (some go165) := (by rw [hw]; exact HP167.2); have hp_ : Kd.R (Kd.int .i64) 3 w168 w.heap.size (fun _ => True) (.slice (some ⟨go165, 0, none⟩) x16_5.length co166) y499 := (by rw [hw, Ny499.out]; exact HP167.1); clear HP167; have n0_ := Aside0.mk (hp_); have n1_ := Aside0.mk (Kd.S_after (v := (.slice (some ⟨go165, 0, none⟩) x16_5.length co166)) (v1 := (.slice (some ⟨go165, 0, none⟩) x16_5.length co166)) (ok := (fun _ => True)) (by (with_reducible repeat (first | apply Kd.S_alloc | apply Kd.S_drewN | apply Kd.S_drew)); exact Kd.S_mono HO_449000.out (fun _ hk => ⟨trivial, hk⟩)) hg (.inl rfl)); have n2_ := Aside0.mk (blk_grown (g := gb441) (o := .cells #[.slice A0_0 l0_0.length c0_0] 25 (0, 0)) (by (with_reducible repeat (first | refine blk_drewN ?_ _ | refine blk_drew ?_ | refine blk_alloc ?_ _)); exact BK441.out) hg (Kd.R_ne HO_16.out BK441.out (by decide))); have n3_ := Aside0.mk (blk_grown (g := gb442) (o := .cells #[.slice A1_0 l1_0.length c1_0] 25 (0, 0)) (by (with_reducible repeat (first | refine blk_drewN ?_ _ | refine blk_drew ?_ | refine blk_alloc ?_ _)); exact BK442.out) hg (Kd.R_ne HO_16.out BK442.out (by decide))); have n4_ := Aside0.mk (blk_grown (g := gb448) (o := .cells #[.slice Ao41 t445.length co41] 25 (0, 0)) (by (with_reducible repeat (first | refine blk_drewN ?_ _ | refine blk_drew ?_ | refine blk_alloc ?_ _)); exact BK448.out) hg (Kd.R_ne HO_16.out BK448.out (by decide))); have n5_ := Aside0.mk ((by rw [hw]; exact below_set (HB.out) GB165.out : Below w.heap.size w w168)); clear HO_16; clear HO_449000; clear BK441; clear BK442; clear BK448; clear HB; have HO_16 := n0_; have HO_449000 := n1_; have BK441 := n2_; have BK442 := n3_; have BK448 := n4_; have HB := n5_; clear n0_ n1_ n2_ n3_ n4_ n5_; clear hg hw hp_))
               go_roundg k5
               case measure => have := HJ3.out; have := HJ35.out; have := HJ95.out; have := HK4.out; have := HK5.out; omega
               case rel => exact ⟨(y499), (wrap64 (x31_5 + 1)), (by first | rfl | (simp; done) | (simp [*]; done)), H', ⟨by have := HJ3.out; have := HJ35.out; have := HJ95.out; have := HK4.out; have := HK5.out; omega⟩, ⟨by (with_reducible repeat (first | apply Kd.R_alloc | apply Kd.R_drewN | apply Kd.R_drew)); exact HO_16.out⟩, ⟨by (with_reducible repeat (first | apply Kd.S_alloc | apply Kd.S_drewN | apply Kd.S_drew)); exact Kd.S_mono HO_449000.out (fun _ hk => hk.2)⟩, ⟨by (with_reducible repeat (first | refine blk_drewN ?_ _ | refine blk_drew ?_ | refine blk_alloc ?_ _)); exact BK441.out⟩, ⟨by (with_reducible repeat (first | refine blk_drewN ?_ _ | refine blk_drew ?_ | refine blk_alloc ?_ _)); exact BK442.out⟩, ⟨by (with_reducible repeat (first | refine blk_drewN ?_ _ | refine blk_drew ?_ | refine blk_alloc ?_ _)); exact BK448.out⟩, ⟨by repeat (first | (with_reducible first | exact HB.out | apply below_alloc | apply pw_below_drewN | apply below_drew1 | refine below_set ?_ GE441.out | refine below_set ?_ GE442.out | refine below_set ?_ GE448.out) | exact HB.out)⟩⟩
              ·
               rw [if_neg c164] at H
               exact absurd H (by simp)
             ·
              rw [if_neg c163] at H
              have c163b0 : decide (x31_5 < (x16_5.length : Int)) = false := decide_eq_false c163
              clear c163
              by_cases c169 : x28_35 = true
              ·
               subst c169
               have H1 : (if x29_95 = true then ((millhandref23_Same.f k5 t445 l0_0).bind fun t500 => (some t500)) else (some false)) = some r := by rw [if_pos rfl] at H; exact H
               clear H
               have H := H1
               clear H1
               by_cases c170 : x29_95 = true
               ·
                subst c170
                have H1 : ((millhandref23_Same.f k5 t445 l0_0).bind fun t500 => (some t500)) = some r := by rw [if_pos rfl] at H; exact H
                clear H
                have H := H1
                clear H1
                replace H := Option.bind_eq_some_iff.mp H
                obtain ⟨t500, A1710, H⟩ := H
                replace H : (some t500) = some r := H
                have A171 := Aside0.mk A1710
                clear A1710
                obtain rfl := Option.some.inj H
                obtain ⟨Ao172, co172, eo172⟩ := Kd.R_slice HO_16.out
                subst eo172
                have hnb173 := NB448_441.out
                have hnc173 := NB441_448.out
                have hnb174 := NB448_442.out
                have hnc174 := NB442_448.out
                have hcz175_0 : wr.cell? ⟨gb448, 0, none⟩ = some (.slice Ao41 t445.length co41) := (blk_cell BK448.out 0).trans rfl
                have hfz175_0 := blk_frozen BK448.out 0
                have hnb176 := NB441_442.out
                have hnc176 := NB442_441.out
                have hcz177_0 : wr.cell? ⟨gb441, 0, none⟩ = some (.slice A0_0 l0_0.length c0_0) := (blk_cell BK441.out 0).trans rfl
                have hfz177_0 := blk_frozen BK441.out 0
                go_wp2_with (first | (go_at_call 11; (with_reducible refine (millhandref23_Same.calls k5 _ _ t445 _ _ l0_0 t500 _ ?side1 ?side2 ?side3 ?side4 A171.out).mono ?_); (case side1 => repeat (first | exact (Kd.S_reads' HO_449000.out).2.2 | (with_reducible refine Kd.C_alloc ?_ _) | (with_reducible refine Kd.C_drewN ?_ _) | (with_reducible refine Kd.C_drew ?_))); (case side2 => exact (Kd.S_reads' HO_449000.out).2.1); (case side3 => repeat (first | exact (Kd.C_below HR0_0.out HB.out) | (with_reducible refine Kd.C_alloc ?_ _) | (with_reducible refine Kd.C_drewN ?_ _) | (with_reducible refine Kd.C_drew ?_))); (case side4 => exact HC0_0.out); rintro e w178 ⟨rfl, hb⟩; have n0_ := Aside0.mk (Kd.R_below (by (with_reducible repeat (first | apply Kd.R_alloc | apply Kd.R_drewN | apply Kd.R_drew)); exact HO_16.out) hb); have n1_ := Aside0.mk (Kd.S_below (by (with_reducible repeat (first | apply Kd.S_alloc | apply Kd.S_drewN | apply Kd.S_drew)); exact HO_449000.out) hb); have n2_ := Aside0.mk (blk_below (g := gb441) (o := .cells #[.slice A0_0 l0_0.length c0_0] 25 (0, 0)) (by (with_reducible repeat (first | refine blk_drewN ?_ _ | refine blk_drew ?_ | refine blk_alloc ?_ _)); exact BK441.out) hb); have n3_ := Aside0.mk (blk_below (g := gb442) (o := .cells #[.slice A1_0 l1_0.length c1_0] 25 (0, 0)) (by (with_reducible repeat (first | refine blk_drewN ?_ _ | refine blk_drew ?_ | refine blk_alloc ?_ _)); exact BK442.out) hb); have n4_ := Aside0.mk (blk_below (g := gb448) (o := .cells #[.slice Ao41 t445.length co41] 25 (0, 0)) (by (with_reducible repeat (first | refine blk_drewN ?_ _ | refine blk_drew ?_ | refine blk_alloc ?_ _)); exact BK448.out) hb); have n5_ := Aside0.mk (below_step (by repeat (first | (with_reducible first | exact HB.out | apply below_alloc | apply pw_below_drewN | apply below_drew1 | refine below_set ?_ GE441.out | refine below_set ?_ GE442.out | refine below_set ?_ GE448.out) | exact HB.out)) hb); clear HO_16; clear HO_449000; clear BK441; clear BK442; clear BK448; clear HB; have HO_16 := n0_; have HO_449000 := n1_; have BK441 := n2_; have BK442 := n3_; have BK448 := n4_; have HB := n5_; clear n0_ n1_ n2_ n3_ n4_ n5_; (try clear hb); (try clear hb2); (try clear hk); (try clear hi)))
                go_ret
                exact ⟨by first | rfl | (simp [errW_none, errW_some] <;> rfl) | (simp [*, errW_none, errW_some] <;> rfl) | exact ret_ie _ | (simp [*, errW_none, errW_some, bne]; done), by repeat (first | (with_reducible first | exact HB.out | apply below_alloc | apply pw_below_drewN | apply below_drew1 | refine below_set ?_ GE441.out | refine below_set ?_ GE442.out | refine below_set ?_ GE448.out) | exact HB.out)⟩
               ·
                replace c170 := Bool.eq_false_iff.mpr c170
                subst c170
                have H1 : (some false) = some r := by rw [if_neg (show ¬ (false = true) by decide)] at H; exact H
                clear H
                have H := H1
                clear H1
                obtain rfl := Option.some.inj H
                obtain ⟨Ao179, co179, eo179⟩ := Kd.R_slice HO_16.out
                subst eo179
                go_wp2
                go_ret
                exact ⟨by first | rfl | (simp [errW_none, errW_some] <;> rfl) | (simp [*, errW_none, errW_some] <;> rfl) | exact ret_ie _ | (simp [*, errW_none, errW_some, bne]; done), by repeat (first | (with_reducible first | exact HB.out | apply below_alloc | apply pw_below_drewN | apply below_drew1 | refine below_set ?_ GE441.out | refine below_set ?_ GE442.out | refine below_set ?_ GE448.out) | exact HB.out)⟩
              ·
               replace c169 := Bool.eq_false_iff.mpr c169
               subst c169
               have H1 : (some false) = some r := by rw [if_neg (show ¬ (false = true) by decide)] at H; exact H
               clear H
               have H := H1
               clear H1
               obtain rfl := Option.some.inj H
               obtain ⟨Ao180, co180, eo180⟩ := Kd.R_slice HO_16.out
               subst eo180
               go_wp2
               go_ret
               exact ⟨by first | rfl | (simp [errW_none, errW_some] <;> rfl) | (simp [*, errW_none, errW_some] <;> rfl) | exact ret_ie _ | (simp [*, errW_none, errW_some, bne]; done), by repeat (first | (with_reducible first | exact HB.out | apply below_alloc | apply pw_below_drewN | apply below_drew1 | refine below_set ?_ GE441.out | refine below_set ?_ GE442.out | refine below_set ?_ GE448.out) | exact HB.out)⟩

end Go.Proofs.Ytoplhlacdjlidaa.R

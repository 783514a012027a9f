/- Contracts of Go functions and what they come to, over the translation of this seat: made by a program of this session (print2.py). -/
import Derived.Test.YtoplhlacdjlidaaRx0
import Derived.Test.YtoplhlacdjlidaaRx12
namespace Go.Proofs.Ytoplhlacdjlidaa.R
open Go.RowKit Go.Proofs.Ytoplhlacdjlidaa.Co Go.Proofs.Ytoplhlacdjlidaa.Ret Go.Proofs.Ytoplhlacdjlidaa.Plain Go.Proofs.YtoplhlacdjlidaaW.PrintWords Go.Proofs.YtoplhlacdjlidaaW.PrintLast Go.Proofs.YtoplhlacdjlidaaW.PrintMore
attribute [local go_sem] max2_int min2_int max_two min_two max_three min_three max_four min_four   -- for this text's walks alone
set_option linter.unusedVariables false
set_option linter.unusedSimpArgs false

/-! ### millhandref23_Same: function 11 -/
def millhandref23_Same.l0 : Nat → Int → List (S40) → List (S40) → Option (Bool)
 | 0, _, _, _ => none
 | k + 1, x5, x257000, x258000 => if x5 < (x257000.length : Int) then (if 0 ≤ x5 then (if x5 < (x258000.length : Int) then (if ((rd_T40 x257000 x5).f1) = ((rd_T40 x258000 x5).f1) then (if ((rd_T40 x257000 x5).f2) = ((rd_T40 x258000 x5).f2) then ((millhandref23_Numbers.f k ((rd_T40 x257000 x5).f0) ((rd_T40 x258000 x5).f0)).bind fun t264 => (if t264 = true then (millhandref23_Same.l0 k (wrap64 (x5 + 1)) x257000 x258000) else (some false))) else (some false)) else (some false)) else (none)) else (none)) else (some true)
def millhandref23_Same.f (k : Nat) (l0_0 : List (S40)) (l1_0 : List (S40)) : Option (Bool) := if (l0_0.length : Int) = (l1_0.length : Int) then (millhandref23_Same.l0 k 0 l0_0 l1_0) else (some false)
theorem millhandref23_Same.mono_l : ∀ k, (∀ y0 y1 y2, LeO (millhandref23_Same.l0 k y0 y1 y2) (millhandref23_Same.l0 (k + 1) y0 y1 y2))
 | 0 => fun _ _ _ r h => by simp [millhandref23_Same.l0] at h
 | k + 1 => by
  have ih0 := millhandref23_Same.mono_l k
  ·
   intro y0 y1 y2
   unfold millhandref23_Same.l0
   repeat' first
   | (with_reducible exact ih0 _ _ _)
   | (with_reducible exact millhandref23_Numbers.mono _ _ _)
   | (with_reducible exact LeO.refl _)
   | (with_reducible exact LeO.none _)
   | (with_reducible refine LeO.ite ?_ ?_)
   | (with_reducible refine LeO.bind ?_ (fun _ => ?_))
   | exact ih0 _ _ _
   | exact millhandref23_Numbers.mono _ _ _
   | exact LeO.none _
   | refine LeO.ite ?_ ?_
   | refine LeO.bind ?_ (fun _ => ?_)
theorem millhandref23_Same.mono : ∀ a0 a1 k, LeO (millhandref23_Same.f k a0 a1) (millhandref23_Same.f (k + 1) a0 a1) := by
 intro a0 a1 k
 have ih0 := millhandref23_Same.mono_l k
 unfold millhandref23_Same.f
 repeat' first
   | (with_reducible exact ih0 _ _ _)
   | (with_reducible exact millhandref23_Numbers.mono _ _ _)
   | (with_reducible exact LeO.refl _)
   | (with_reducible exact LeO.none _)
   | (with_reducible refine LeO.ite ?_ ?_)
   | (with_reducible refine LeO.bind ?_ (fun _ => ?_))
   | exact ih0 _ _ _
   | exact millhandref23_Numbers.mono _ _ _
   | exact LeO.none _
   | refine LeO.ite ?_ ?_
   | refine LeO.bind ?_ (fun _ => ?_)
def millhandref23_Same.T6 : Bool × List (List Nat × List Nat) := (true, [([], []), ([0], [0]), ([], []), ([1, 2], [1, 2]), ([3], [3]), ([4], [4]), ([], []), ([6], [6]), ([], []), ([7, 8], [7, 8]), ([9], [9]), ([10], [10]), ([5, 11], [5, 11]), ([12], [12]), ([13], [13]), ([14, 13], [13, 14]), ([13], [13]), ([15, 16, 13], [13, 15, 16]), ([17, 13], [13, 17]), ([18, 13], [13, 18]), ([13], [13]), ([20, 13], [13, 20]), ([13], [13]), ([21, 22, 13], [13, 21, 22]), ([23, 13], [13, 23]), ([24, 13], [13, 24]), ([19, 25, 13], [13, 19, 25]), ([13, 26], [13, 26]), ([27, 13], [27]), ([28], [28]), ([29, 28], [28, 29]), ([28], [28]), ([30, 31, 28], [28, 30, 31]), ([32, 28], [28, 32]), ([33, 28], [28, 33]), ([28], [28]), ([35, 28], [28, 35]), ([28], [28]), ([36, 37, 28], [28, 36, 37]), ([38, 28], [28, 38]), ([39, 28], [28, 39]), ([34, 40, 28, 28], [28, 34, 40]), ([41, 28], [28, 41]), ([28, 42], [28, 42])])
def millhandref23_Same.B6 : List Nat := [0, 1, 0, 7, 15, 31, 0, 64, 0, 448, 960, 1984, 4095, 8191, 16383, 32767, 16383, 131071, 262143, 524287, 16383, 1064959, 16383, 7356415, 15745023, 32522239, 67108863, 134217727, 268435455, 536870911, 1073741823, 536870911, 4294967295, 8589934591, 17179869183, 536870911, 34896609279, 536870911, 241055039487, 515932946431, 1065688760319, 2199023255551, 4398046511103, 8796093022207]
theorem millhandref23_Same.tab6 : rtab .any (opsOf Try.f11 6) = millhandref23_Same.T6 := by kernel_rfl
theorem millhandref23_Same.bits6 : waitsOk millhandref23_Same.T6.2 millhandref23_Same.B6 = true := by kernel_rfl
set_option maxHeartbeats 8000000 in
set_option maxRecDepth 100000 in
theorem millhandref23_Same.calls (k : Nat) (A0_0 : Option Addr) (c0_0 : Nat) (l0_0 : List (S40)) (A1_0 : Option Addr) (c1_0 : Nat) (l1_0 : List (S40)) (r : Bool) (w : World) (hr0_0 : Kd.C k40 w A0_0 l0_0.length l0_0) (hc0_0 : l0_0.length ≤ c0_0) (hr1_0 : Kd.C k40 w A1_0 l1_0.length l1_0) (hc1_0 : l1_0.length ≤ c1_0) (h : millhandref23_Same.f k l0_0 l1_0 = some r) :
  Calls Try.prog 11 #[.agg #[.slice A0_0 l0_0.length c0_0], .agg #[.slice A1_0 l1_0.length c1_0]] w fun e w' => e = .returned (.bool r) ∧ Below w.heap.size w w' := by
 have hu25 := Try.underlying25
 have HR0_0 := Aside0.mk hr0_0
 have HC0_0 := Aside0.mk hc0_0
 clear hr0_0 hc0_0
 have HR1_0 := Aside0.mk hr1_0
 have HC1_0 := Aside0.mk hc1_0
 clear hr1_0 hc1_0
 have HB := Aside0.mk (Below.refl w.heap.size w)
 have H : (if (l0_0.length : Int) = (l1_0.length : Int) then (millhandref23_Same.l0 k 0 l0_0 l1_0) else (some false)) = some r := h
 clear h
 by_cases c3 : (l0_0.length : Int) = (l1_0.length : Int)
 ·
  rw [if_pos c3] at H
  have c3b0 : ((l0_0.length : Int) == (l1_0.length : Int)) = true := beq_iff_eq.mpr c3
  have c3b1 : ((l0_0.length : Int) != (l1_0.length : Int)) = false := bne_eq_false_iff_eq.mpr c3
  have c3b2 : (l0_0.length == l1_0.length) = true := by first | simpa using c3 | (simp at c3 ⊢; omega)
  clear c3
  have H' := Aside0.mk H
  clear H
  go_enter Try.func11, Try.ntmps11
  go_wp2_with (first | ((with_reducible refine gate_dst (N := 2) rfl ?_); refine box_event ?hg (N := 2) ?hd (cs := #[.slice A0_0 l0_0.length c0_0]) (t := 25) ?hr ?_; (case hd => rfl); (case hg => rfl); (case hr => first | (go_simp; done) | (go_simp; rfl)); intro gb256 hg w4 hbox hb; have n0_ := Aside0.mk (below_step (by repeat (first | (with_reducible first | exact HB.out | apply below_alloc | apply pw_below_drewN | apply below_drew1) | exact HB.out)) hb); have n1_ := Aside0.mk (hbox); have n2_ := Aside0.mk ((by rw [hg]; exact (below_size (by repeat (first | (with_reducible first | exact HB.out | apply below_alloc | apply pw_below_drewN | apply below_drew1) | exact HB.out))) : w.heap.size ≤ gb256)); have n3_ := Aside0.mk ((by rw [hg]; exact (below_size (by repeat (first | (with_reducible first | exact HB.out | apply below_alloc | apply pw_below_drewN | apply below_drew1) | exact HB.out))) : w.heap.size ≤ gb256)); clear HB; have HB := n0_; have BK256 := n1_; have GW256 := n2_; have GE256 := n3_; clear n0_ n1_ n2_ n3_; clear hb hbox hg) | ((with_reducible refine gate_dst (N := 3) rfl ?_); refine box_event ?hg (N := 3) ?hd (cs := #[.slice A1_0 l1_0.length c1_0]) (t := 25) ?hr ?_; (case hd => rfl); (case hg => rfl); (case hr => first | (go_simp; done) | (go_simp; rfl)); intro gb257 hg w5 hbox hb; have n0_ := Aside0.mk (blk_below (g := gb256) (o := .cells #[.slice A0_0 l0_0.length c0_0] 25 (0, 0)) (by (with_reducible repeat (first | refine blk_drewN ?_ _ | refine blk_drew ?_ | refine blk_alloc ?_ _)); exact BK256.out) hb); have n1_ := Aside0.mk (below_step (by repeat (first | (with_reducible first | exact HB.out | apply below_alloc | apply pw_below_drewN | apply below_drew1 | refine below_set ?_ GE256.out) | exact HB.out)) hb); have n2_ := Aside0.mk (hbox); have n3_ := Aside0.mk ((by rw [hg]; exact (below_size (by repeat (first | (with_reducible first | exact HB.out | apply below_alloc | apply pw_below_drewN | apply below_drew1 | refine below_set ?_ GE256.out) | exact HB.out))) : w.heap.size ≤ gb257)); have n4_ := Aside0.mk ((by rw [hg]; exact (below_size (by repeat (first | (with_reducible first | exact HB.out | apply below_alloc | apply pw_below_drewN | apply below_drew1 | refine below_set ?_ GE256.out) | exact HB.out))) : w.heap.size ≤ gb257)); have n5_ := Aside0.mk ((by rw [hg]; exact Nat.ne_of_lt (blk_lt (g := gb256) (o := .cells #[.slice A0_0 l0_0.length c0_0] 25 (0, 0)) (by (with_reducible repeat (first | refine blk_drewN ?_ _ | refine blk_drew ?_ | refine blk_alloc ?_ _)); exact BK256.out)) : gb256 ≠ gb257)); have n6_ := Aside0.mk ((by rw [hg]; exact Nat.ne_of_gt (blk_lt (g := gb256) (o := .cells #[.slice A0_0 l0_0.length c0_0] 25 (0, 0)) (by (with_reducible repeat (first | refine blk_drewN ?_ _ | refine blk_drew ?_ | refine blk_alloc ?_ _)); exact BK256.out)) : gb257 ≠ gb256)); clear BK256; clear HB; have BK256 := n0_; have HB := n1_; have BK257 := n2_; have GW257 := n3_; have GE257 := n4_; have NB256_257 := n5_; have NB257_256 := n6_; clear n0_ n1_ n2_ n3_ n4_ n5_ n6_; clear hb hbox hg; have hnb6 := NB256_257.out; have hnc6 := NB257_256.out; have hcz7_0 : w5.cell? ⟨gb256, 0, none⟩ = some (.slice A0_0 l0_0.length c0_0) := (blk_cell BK256.out 0).trans rfl; have hfz7_0 := blk_frozen BK256.out 0; have hcz8_0 : w5.cell? ⟨gb257, 0, none⟩ = some (.slice A1_0 l1_0.length c1_0) := (blk_cell BK257.out 0).trans rfl; have hfz8_0 := blk_frozen BK257.out 0))
  go_loopg [5] k (fun kq v5 w' => ∃ (x5_1 : Int), v5 = .int .i64 x5_1 ∧ Aside0 (millhandref23_Same.l0 kq x5_1 l0_0 l1_0 = some r) ∧ Aside0 (kq ≤ k) ∧ Aside0 (w'.heap[gb256]? = some (.cells #[(.slice A0_0 l0_0.length c0_0)] 25 (0, 0))) ∧ Aside0 (w'.heap[gb257]? = some (.cells #[(.slice A1_0 l1_0.length c1_0)] 25 (0, 0))) ∧ Aside0 (Below w.heap.size w w'))
  case atStart => exact ⟨(0), (by first | rfl | (simp; done) | (simp [*]; done)), H', ⟨Nat.le_refl _⟩, ⟨by (with_reducible repeat (first | refine blk_drewN ?_ _ | refine blk_drew ?_ | refine blk_alloc ?_ _)); exact BK256.out⟩, ⟨by (with_reducible repeat (first | refine blk_drewN ?_ _ | refine blk_drew ?_ | refine blk_alloc ?_ _)); exact BK257.out⟩, ⟨by repeat (first | (with_reducible first | exact HB.out | apply below_alloc | apply pw_below_drewN | apply below_drew1 | refine below_set ?_ GE256.out | refine below_set ?_ GE257.out) | exact HB.out)⟩⟩
  case round =>
   clear H'
   try clear c1
   try clear p2
   try clear c3
   try clear c3b0
   try clear c3b1
   try clear c3b2
   try clear c6
   try clear hcz7_0
   try clear hcz8_0
   try clear hfz7_0
   try clear hfz8_0
   obtain ⟨x5_1, rfl, HA, HK1, BK256, BK257, HB⟩ := hrel
   cases gk with
   | zero => exact absurd HA.out (by simp [millhandref23_Same.l0])
   | succ k1 =>
    have H := HA.out
    clear HA
    simp only [millhandref23_Same.l0] at H
    by_cases c9 : x5_1 < (l0_0.length : Int)
    ·
     rw [if_pos c9] at H
     have c9b0 : decide (x5_1 < (l0_0.length : Int)) = true := decide_eq_true c9
     clear c9
     by_cases c10 : 0 ≤ x5_1
     ·
      rw [if_pos c10] at H
      have c10b0 : decide (0 ≤ x5_1) = true := decide_eq_true c10
      clear c10
      by_cases c11 : x5_1 < (l1_0.length : Int)
      ·
       rw [if_pos c11] at H
       have c11b0 : decide (x5_1 < (l1_0.length : Int)) = true := decide_eq_true c11
       clear c11
       by_cases c12 : ((rd_T40 l0_0 x5_1).f1) = ((rd_T40 l1_0 x5_1).f1)
       ·
        rw [if_pos c12] at H
        have c12b0 : (((rd_T40 l0_0 x5_1).f1) == ((rd_T40 l1_0 x5_1).f1)) = true := beq_iff_eq.mpr c12
        have c12b1 : (((rd_T40 l0_0 x5_1).f1) != ((rd_T40 l1_0 x5_1).f1)) = false := bne_eq_false_iff_eq.mpr c12
        clear c12
        by_cases c13 : ((rd_T40 l0_0 x5_1).f2) = ((rd_T40 l1_0 x5_1).f2)
        ·
         rw [if_pos c13] at H
         have c13b0 : (((rd_T40 l0_0 x5_1).f2) == ((rd_T40 l1_0 x5_1).f2)) = true := beq_iff_eq.mpr c13
         have c13b1 : (((rd_T40 l0_0 x5_1).f2) != ((rd_T40 l1_0 x5_1).f2)) = false := bne_eq_false_iff_eq.mpr c13
         clear c13
         replace H := Option.bind_eq_some_iff.mp H
         obtain ⟨t264, A140, H⟩ := H
         replace H : (if t264 = true then (millhandref23_Same.l0 k1 (wrap64 (x5_1 + 1)) l0_0 l1_0) else (some false)) = some r := H
         have A14 := Aside0.mk A140
         clear A140
         by_cases c15 : t264 = true
         ·
          subst c15
          have H1 : (millhandref23_Same.l0 k1 (wrap64 (x5_1 + 1)) l0_0 l1_0) = some r := by rw [if_pos rfl] at H; exact H
          clear H
          have H := H1
          clear H1
          have H' := Aside0.mk H
          clear H
          have hnb16 := NB256_257.out
          have hnc16 := NB257_256.out
          have hcz17_0 : wr.cell? ⟨gb256, 0, none⟩ = some (.slice A0_0 l0_0.length c0_0) := (blk_cell BK256.out 0).trans rfl
          have hfz17_0 := blk_frozen BK256.out 0
          try go_wp2
          obtain ⟨BK256, BK257, HB⟩ := And.intro (Aside0.mk (blk_drew BK256.out)) (And.intro (Aside0.mk (blk_drew BK257.out)) (Aside0.mk (below_drew1 HB.out)))
          have p258 : 0 ≤ (x5_1 : Int) := of_decide_eq_true (by first | (with_reducible assumption) | assumption)
          have q258 : x5_1 < (l0_0.length : Int) := of_decide_eq_true (by first | (with_reducible assumption) | assumption)
          obtain ⟨ad258, A258_0, c258_0, e258, hx258_0, hx258_1, hx258_2, hl258_0, hi258_0⟩ := at_T40 HR0_0.out x5_1 p258 q258
          have hw258_2 := hx258_2
          have hw258_1 := hx258_1
          have hw258_0 := hx258_0
          cases e258
          replace hx258_0 := cl_ HB.out hx258_0
          replace hx258_1 := cl_ HB.out hx258_1
          replace hx258_2 := cl_ HB.out hx258_2
          have HR258_0 := Aside0.mk hi258_0
          have HC258_0 := Aside0.mk hl258_0
          clear hi258_0 hl258_0
          replace p258 := eq_true p258
          replace q258 := eq_true q258
          have p259 : 0 ≤ (x5_1 : Int) := of_decide_eq_true (by first | (with_reducible assumption) | assumption)
          have q259 : x5_1 < (l1_0.length : Int) := of_decide_eq_true (by first | (with_reducible assumption) | assumption)
          obtain ⟨ad259, A259_0, c259_0, e259, hx259_0, hx259_1, hx259_2, hl259_0, hi259_0⟩ := at_T40 HR1_0.out x5_1 p259 q259
          have hw259_2 := hx259_2
          have hw259_1 := hx259_1
          have hw259_0 := hx259_0
          cases e259
          replace hx259_0 := cl_ HB.out hx259_0
          replace hx259_1 := cl_ HB.out hx259_1
          replace hx259_2 := cl_ HB.out hx259_2
          have HR259_0 := Aside0.mk hi259_0
          have HC259_0 := Aside0.mk hl259_0
          clear hi259_0 hl259_0
          replace p259 := eq_true p259
          replace q259 := eq_true q259
          have p260 : 0 ≤ (x5_1 : Int) := of_decide_eq_true (by first | (with_reducible assumption) | assumption)
          have q260 : x5_1 < (l0_0.length : Int) := of_decide_eq_true (by first | (with_reducible assumption) | assumption)
          obtain ⟨ad260, A260_0, c260_0, e260, hx260_0, hx260_1, hx260_2, hl260_0, hi260_0⟩ := at_T40 HR0_0.out x5_1 p260 q260
          have hw260_2 := hx260_2
          have hw260_1 := hx260_1
          have hw260_0 := hx260_0
          obtain rfl : ad258 = ad260 := (by injection e260)
          replace hx260_0 := cl_ HB.out hx260_0
          replace hx260_1 := cl_ HB.out hx260_1
          replace hx260_2 := cl_ HB.out hx260_2
          have HR260_0 := Aside0.mk hi260_0
          have HC260_0 := Aside0.mk hl260_0
          clear hi260_0 hl260_0
          replace p260 := eq_true p260
          replace q260 := eq_true q260
          have ea_ := Option.some.inj (hx258_0.symm.trans hx260_0)
          injection ea_ with ea_ en_ ec_
          subst ea_
          subst ec_
          clear en_
          have p261 : 0 ≤ (x5_1 : Int) := of_decide_eq_true (by first | (with_reducible assumption) | assumption)
          have q261 : x5_1 < (l1_0.length : Int) := of_decide_eq_true (by first | (with_reducible assumption) | assumption)
          obtain ⟨ad261, A261_0, c261_0, e261, hx261_0, hx261_1, hx261_2, hl261_0, hi261_0⟩ := at_T40 HR1_0.out x5_1 p261 q261
          have hw261_2 := hx261_2
          have hw261_1 := hx261_1
          have hw261_0 := hx261_0
          obtain rfl : ad259 = ad261 := (by injection e261)
          replace hx261_0 := cl_ HB.out hx261_0
          replace hx261_1 := cl_ HB.out hx261_1
          replace hx261_2 := cl_ HB.out hx261_2
          have HR261_0 := Aside0.mk hi261_0
          have HC261_0 := Aside0.mk hl261_0
          clear hi261_0 hl261_0
          replace p261 := eq_true p261
          replace q261 := eq_true q261
          have ea_ := Option.some.inj (hx259_0.symm.trans hx261_0)
          injection ea_ with ea_ en_ ec_
          subst ea_
          subst ec_
          clear en_
          have p262 : 0 ≤ (x5_1 : Int) := of_decide_eq_true (by first | (with_reducible assumption) | assumption)
          have q262 : x5_1 < (l0_0.length : Int) := of_decide_eq_true (by first | (with_reducible assumption) | assumption)
          obtain ⟨ad262, A262_0, c262_0, e262, hx262_0, hx262_1, hx262_2, hl262_0, hi262_0⟩ := at_T40 HR0_0.out x5_1 p262 q262
          have hw262_2 := hx262_2
          have hw262_1 := hx262_1
          have hw262_0 := hx262_0
          obtain rfl : ad258 = ad262 := (by injection e262)
          replace hx262_0 := cl_ HB.out hx262_0
          replace hx262_1 := cl_ HB.out hx262_1
          replace hx262_2 := cl_ HB.out hx262_2
          have HR262_0 := Aside0.mk hi262_0
          have HC262_0 := Aside0.mk hl262_0
          clear hi262_0 hl262_0
          replace p262 := eq_true p262
          replace q262 := eq_true q262
          have ea_ := Option.some.inj (hx258_0.symm.trans hx262_0)
          injection ea_ with ea_ en_ ec_
          subst ea_
          subst ec_
          clear en_
          have p263 : 0 ≤ (x5_1 : Int) := of_decide_eq_true (by first | (with_reducible assumption) | assumption)
          have q263 : x5_1 < (l1_0.length : Int) := of_decide_eq_true (by first | (with_reducible assumption) | assumption)
          obtain ⟨ad263, A263_0, c263_0, e263, hx263_0, hx263_1, hx263_2, hl263_0, hi263_0⟩ := at_T40 HR1_0.out x5_1 p263 q263
          have hw263_2 := hx263_2
          have hw263_1 := hx263_1
          have hw263_0 := hx263_0
          obtain rfl : ad259 = ad263 := (by injection e263)
          replace hx263_0 := cl_ HB.out hx263_0
          replace hx263_1 := cl_ HB.out hx263_1
          replace hx263_2 := cl_ HB.out hx263_2
          have HR263_0 := Aside0.mk hi263_0
          have HC263_0 := Aside0.mk hl263_0
          clear hi263_0 hl263_0
          replace p263 := eq_true p263
          replace q263 := eq_true q263
          have ea_ := Option.some.inj (hx259_0.symm.trans hx263_0)
          injection ea_ with ea_ en_ ec_
          subst ea_
          subst ec_
          clear en_
          refine start_ (n := 44) (S := fun w' => w'.cell? ⟨gb256, 0, none⟩ = some (.slice (some ad258) l0_0.length c0_0) ∧ w'.cell? ⟨gb257, 0, none⟩ = some (.slice (some ad259) l1_0.length c1_0) ∧ w'.cell? (ad258.add ((x5_1).toNat * 3)) = some (.slice A258_0 ((rd_T40 l0_0 x5_1).f0).length c258_0) ∧ w'.cell? ⟨(ad258.add ((x5_1).toNat * 3)).block, (ad258.add ((x5_1).toNat * 3)).off + 1, none⟩ = some (.int .i64 ((rd_T40 l0_0 x5_1).f1)) ∧ w'.cell? ⟨(ad258.add ((x5_1).toNat * 3)).block, (ad258.add ((x5_1).toNat * 3)).off + 2, none⟩ = some (.int .i64 ((rd_T40 l0_0 x5_1).f2)) ∧ w'.cell? (ad259.add ((x5_1).toNat * 3)) = some (.slice A259_0 ((rd_T40 l1_0 x5_1).f0).length c259_0) ∧ w'.cell? ⟨(ad259.add ((x5_1).toNat * 3)).block, (ad259.add ((x5_1).toNat * 3)).off + 1, none⟩ = some (.int .i64 ((rd_T40 l1_0 x5_1).f1)) ∧ w'.cell? ⟨(ad259.add ((x5_1).toNat * 3)).block, (ad259.add ((x5_1).toNat * 3)).off + 2, none⟩ = some (.int .i64 ((rd_T40 l1_0 x5_1).f2)) ∧ w'.cell? (ad258.add ((x5_1).toNat * 3)) = some (.slice A258_0 ((rd_T40 l0_0 x5_1).f0).length c258_0) ∧ w'.cell? ⟨(ad258.add ((x5_1).toNat * 3)).block, (ad258.add ((x5_1).toNat * 3)).off + 1, none⟩ = some (.int .i64 ((rd_T40 l0_0 x5_1).f1)) ∧ w'.cell? ⟨(ad258.add ((x5_1).toNat * 3)).block, (ad258.add ((x5_1).toNat * 3)).off + 2, none⟩ = some (.int .i64 ((rd_T40 l0_0 x5_1).f2)) ∧ w'.cell? (ad259.add ((x5_1).toNat * 3)) = some (.slice A259_0 ((rd_T40 l1_0 x5_1).f0).length c259_0) ∧ w'.cell? ⟨(ad259.add ((x5_1).toNat * 3)).block, (ad259.add ((x5_1).toNat * 3)).off + 1, none⟩ = some (.int .i64 ((rd_T40 l1_0 x5_1).f1)) ∧ w'.cell? ⟨(ad259.add ((x5_1).toNat * 3)).block, (ad259.add ((x5_1).toNat * 3)).off + 2, none⟩ = some (.int .i64 ((rd_T40 l1_0 x5_1).f2)) ∧ w'.cell? (ad258.add ((x5_1).toNat * 3)) = some (.slice A258_0 ((rd_T40 l0_0 x5_1).f0).length c258_0) ∧ w'.cell? ⟨(ad258.add ((x5_1).toNat * 3)).block, (ad258.add ((x5_1).toNat * 3)).off + 1, none⟩ = some (.int .i64 ((rd_T40 l0_0 x5_1).f1)) ∧ w'.cell? ⟨(ad258.add ((x5_1).toNat * 3)).block, (ad258.add ((x5_1).toNat * 3)).off + 2, none⟩ = some (.int .i64 ((rd_T40 l0_0 x5_1).f2)) ∧ w'.cell? (ad259.add ((x5_1).toNat * 3)) = some (.slice A259_0 ((rd_T40 l1_0 x5_1).f0).length c259_0) ∧ w'.cell? ⟨(ad259.add ((x5_1).toNat * 3)).block, (ad259.add ((x5_1).toNat * 3)).off + 1, none⟩ = some (.int .i64 ((rd_T40 l1_0 x5_1).f1)) ∧ w'.cell? ⟨(ad259.add ((x5_1).toNat * 3)).block, (ad259.add ((x5_1).toNat * 3)).off + 2, none⟩ = some (.int .i64 ((rd_T40 l1_0 x5_1).f2))) (ds := []) (b_ 44 0) (by kernel_rfl) rfl rfl ⟨(blk_cell BK256.out 0).trans rfl, (blk_cell BK257.out 0).trans rfl, (cl_ HB.out hw258_0), (cl_ HB.out hw258_1), (cl_ HB.out hw258_2), (cl_ HB.out hw259_0), (cl_ HB.out hw259_1), (cl_ HB.out hw259_2), (cl_ HB.out hw260_0), (cl_ HB.out hw260_1), (cl_ HB.out hw260_2), (cl_ HB.out hw261_0), (cl_ HB.out hw261_1), (cl_ HB.out hw261_2), (cl_ HB.out hw262_0), (cl_ HB.out hw262_1), (cl_ HB.out hw262_2), (cl_ HB.out hw263_0), (cl_ HB.out hw263_1), (cl_ HB.out hw263_2)⟩ (fun hHeld => ?_); refine with_tabW millhandref23_Same.tab6 millhandref23_Same.bits6 (fun HT_ HW_ => ?_)
          generalize wr.drew = w18 at BK256 BK257 HB HR258_0 HR259_0 HR260_0 HR261_0 HR262_0 HR263_0 hx258_0 hx258_1 hx258_2 hx259_0 hx259_1 hx259_2 hx260_0 hx260_1 hx260_2 hx261_0 hx261_1 hx261_2 hx262_0 hx262_1 hx262_2 hx263_0 hx263_1 hx263_2 hHeld ⊢
          refine pA_ 0 20 ?_ (b_ 44 1) (any_of HT_.out (by kernel_rfl)) rfl rfl (fun _ _ _ h => h) (by rfl) ?_ ?_ ?_ ?_
          rotate_left
          ·
           intro w'
           go_simp
           with_reducible rfl
          rotate_left
          ·
           simp only [Act.put, sa_, s0_, s1_, i64_w, i32_w]
           rfl
          refine pA_ 2 22 ?_ (b_ 44 5) (any_of HT_.out (by kernel_rfl)) rfl rfl (fun _ _ _ h => h) (by rfl) ?_ ?_ ?_ ?_
          rotate_left
          ·
           intro w'
           go_simp
           with_reducible rfl
          rotate_left
          ·
           simp only [Act.put, sa_, s0_, s1_, i64_w, i32_w]
           rfl
          refine pA_ 6 26 ?_ (b_ 44 69) (any_of HT_.out (by kernel_rfl)) rfl rfl (fun _ _ _ h => h) (by rfl) ?_ ?_ ?_ ?_
          rotate_left
          ·
           intro w'
           go_simp
           with_reducible rfl
          rotate_left
          ·
           simp only [Act.put, sa_, s0_, s1_, i64_w, i32_w]
           rfl
          refine pA_ 8 28 ?_ (b_ 44 325) (any_of HT_.out (by kernel_rfl)) rfl rfl (fun _ _ _ h => h) (by rfl) ?_ ?_ ?_ ?_
          rotate_left
          ·
           intro w'
           go_simp
           with_reducible rfl
          rotate_left
          ·
           simp only [Act.put, sa_, s0_, s1_, i64_w, i32_w]
           rfl
          refine tA_ 1 21 ?_ (b_ 44 327) (take_ofW HT_.out HW_.out (by kernel_rfl)) rfl rfl (fun _ _ _ h => h) (by rfl) ?_ hHeld ?_ ?_ ?_
          rotate_left
          ·
           rintro w' ⟨s0, s1, s2, s3, s4, s5, s6, s7, s8, s9, s10, s11, s12, s13, s14, s15, s16, s17, s18, s19⟩
           go_simp
           with_reducible rfl
          rotate_left
          ·
           simp only [Act.put, sa_, s0_, s1_, i64_w, i32_w]
           rfl
          refine pA_ 3 23 ?_ (b_ 44 335) (any_of HT_.out (by kernel_rfl)) rfl rfl (fun _ _ _ h => h) (by rfl) ?_ ?_ ?_ ?_
          rotate_left
          ·
           intro w'
           go_simp
           with_reducible rfl
          rotate_left
          ·
           simp only [Act.put, sa_, s0_, s1_, i64_w, i32_w]
           rfl
          refine pA_ 4 24 ?_ (b_ 44 351) (any_of HT_.out (by kernel_rfl)) rfl rfl (fun _ _ _ h => h) (by rfl) ?_ ?_ ?_ ?_
          rotate_left
          ·
           intro w'
           go_simp
           with_reducible rfl
          rotate_left
          ·
           simp only [Act.put, sa_, s0_, s1_, i64_w, i32_w]
           rfl
          refine tA_ 5 25 ?_ (b_ 44 383) (take_ofW HT_.out HW_.out (by kernel_rfl)) rfl rfl (fun _ _ _ h => h) (by rfl) ?_ hHeld ?_ ?_ ?_
          rotate_left
          ·
           rintro w' ⟨s0, s1, s2, s3, s4, s5, s6, s7, s8, s9, s10, s11, s12, s13, s14, s15, s16, s17, s18, s19⟩
           go_simp
           with_reducible rfl
          rotate_left
          ·
           simp only [Act.put, sa_, s0_, s1_, i64_w, i32_w]
           rfl
          refine tA_ 7 27 ?_ (b_ 44 511) (take_ofW HT_.out HW_.out (by kernel_rfl)) rfl rfl (fun _ _ _ h => h) (by rfl) ?_ hHeld ?_ ?_ ?_
          rotate_left
          ·
           rintro w' ⟨s0, s1, s2, s3, s4, s5, s6, s7, s8, s9, s10, s11, s12, s13, s14, s15, s16, s17, s18, s19⟩
           go_simp
           with_reducible rfl
          rotate_left
          ·
           simp only [Act.put, sa_, s0_, s1_, i64_w, i32_w]
           rfl
          refine pA_ 9 29 ?_ (b_ 44 1023) (any_of HT_.out (by kernel_rfl)) rfl rfl (fun _ _ _ h => h) (by rfl) ?_ ?_ ?_ ?_
          rotate_left
          ·
           intro w'
           go_simp
           with_reducible rfl
          rotate_left
          ·
           simp only [Act.put, sa_, s0_, s1_, i64_w, i32_w]
           rfl
          refine pA_ 10 30 ?_ (b_ 44 2047) (any_of HT_.out (by kernel_rfl)) rfl rfl (fun _ _ _ h => h) (by rfl) ?_ ?_ ?_ ?_
          rotate_left
          ·
           intro w'
           go_simp
           with_reducible rfl
          rotate_left
          ·
           simp only [Act.put, sa_, s0_, s1_, i64_w, i32_w]
           rfl
          refine tA_ 11 31 ?_ (b_ 44 4095) (take_ofW HT_.out HW_.out (by kernel_rfl)) rfl rfl (fun _ _ _ h => h) (by rfl) ?_ hHeld ?_ ?_ ?_
          rotate_left
          ·
           rintro w' ⟨s0, s1, s2, s3, s4, s5, s6, s7, s8, s9, s10, s11, s12, s13, s14, s15, s16, s17, s18, s19⟩
           go_simp
           with_reducible rfl
          rotate_left
          ·
           simp only [Act.put, sa_, s0_, s1_, i64_w, i32_w]
           rfl
          refine pA_ 12 32 ?_ (b_ 44 8191) (any_of HT_.out (by kernel_rfl)) rfl rfl (fun _ _ _ h => h) (by rfl) ?_ ?_ ?_ ?_
          rotate_left
          ·
           intro w'
           go_simp
           with_reducible rfl
          rotate_left
          ·
           simp only [Act.put, sa_, s0_, s1_, i64_w, i32_w]
           rfl
          refine pA_ 13 33 ?_ (b_ 44 16383) (any_of HT_.out (by kernel_rfl)) rfl rfl (fun _ _ _ h => h) (by rfl) ?_ ?_ ?_ ?_
          rotate_left
          ·
           intro w'
           go_simp
           with_reducible rfl
          rotate_left
          ·
           simp only [Act.put, sa_, s0_, s1_, i64_w, i32_w]
           rfl
          refine pA_ 14 34 ?_ (b_ 44 32767) (any_of HT_.out (by kernel_rfl)) rfl rfl (fun _ _ _ h => h) (by rfl) ?_ ?_ ?_ ?_
          rotate_left
          ·
           intro w'
           go_simp
           with_reducible rfl
          rotate_left
          ·
           simp only [Act.put, sa_, s0_, s1_, i64_w, i32_w]
           rfl
          refine pA_ 16 36 ?_ (b_ 44 98303) (any_of HT_.out (by kernel_rfl)) rfl rfl (fun _ _ _ h => h) (by rfl) ?_ ?_ ?_ ?_
          rotate_left
          ·
           intro w'
           go_simp
           with_reducible rfl
          rotate_left
          ·
           simp only [Act.put, sa_, s0_, s1_, i64_w, i32_w]
           rfl
          refine pA_ 20 40 ?_ (b_ 44 1146879) (any_of HT_.out (by kernel_rfl)) rfl rfl (fun _ _ _ h => h) (by rfl) ?_ ?_ ?_ ?_
          rotate_left
          ·
           intro w'
           go_simp
           with_reducible rfl
          rotate_left
          ·
           simp only [Act.put, sa_, s0_, s1_, i64_w, i32_w]
           rfl
          refine pA_ 22 42 ?_ (b_ 44 5341183) (any_of HT_.out (by kernel_rfl)) rfl rfl (fun _ _ _ h => h) (by rfl) ?_ ?_ ?_ ?_
          rotate_left
          ·
           intro w'
           go_simp
           with_reducible rfl
          rotate_left
          ·
           simp only [Act.put, sa_, s0_, s1_, i64_w, i32_w]
           rfl
          refine tA_ 15 35 ?_ (b_ 44 5373951) (take_ofW HT_.out HW_.out (by kernel_rfl)) rfl rfl (fun _ _ _ h => h) (by rfl) ?_ hHeld ?_ ?_ ?_
          rotate_left
          ·
           rintro w' ⟨s0, s1, s2, s3, s4, s5, s6, s7, s8, s9, s10, s11, s12, s13, s14, s15, s16, s17, s18, s19⟩
           go_simp
           with_reducible rfl
          rotate_left
          ·
           simp only [Act.put, sa_, s0_, s1_, i64_w, i32_w]
           rfl
          refine pA_ 17 37 ?_ (b_ 44 5505023) (any_of HT_.out (by kernel_rfl)) rfl rfl (fun _ _ _ h => h) (by rfl) ?_ ?_ ?_ ?_
          rotate_left
          ·
           intro w'
           go_simp
           with_reducible rfl
          rotate_left
          ·
           simp only [Act.put, sa_, s0_, s1_, i64_w, i32_w]
           rfl
          refine pA_ 18 38 ?_ (b_ 44 5767167) (any_of HT_.out (by kernel_rfl)) rfl rfl (fun _ _ _ h => h) (by rfl) ?_ ?_ ?_ ?_
          rotate_left
          ·
           intro w'
           go_simp
           with_reducible rfl
          rotate_left
          ·
           simp only [Act.put, sa_, s0_, s1_, i64_w, i32_w]
           rfl
          refine tA_ 19 39 ?_ (b_ 44 6291455) (take_ofW HT_.out HW_.out (by kernel_rfl)) rfl rfl (fun _ _ _ h => h) (by rfl) ?_ hHeld ?_ ?_ ?_
          rotate_left
          ·
           rintro w' ⟨s0, s1, s2, s3, s4, s5, s6, s7, s8, s9, s10, s11, s12, s13, s14, s15, s16, s17, s18, s19⟩
           go_simp
           with_reducible rfl
          rotate_left
          ·
           simp only [Act.put, sa_, s0_, s1_, i64_w, i32_w]
           rfl
          refine tA_ 21 41 ?_ (b_ 44 8388607) (take_ofW HT_.out HW_.out (by kernel_rfl)) rfl rfl (fun _ _ _ h => h) (by rfl) ?_ hHeld ?_ ?_ ?_
          rotate_left
          ·
           rintro w' ⟨s0, s1, s2, s3, s4, s5, s6, s7, s8, s9, s10, s11, s12, s13, s14, s15, s16, s17, s18, s19⟩
           go_simp
           with_reducible rfl
          rotate_left
          ·
           simp only [Act.put, sa_, s0_, s1_, i64_w, i32_w]
           rfl
          refine pA_ 23 43 ?_ (b_ 44 16777215) (any_of HT_.out (by kernel_rfl)) rfl rfl (fun _ _ _ h => h) (by rfl) ?_ ?_ ?_ ?_
          rotate_left
          ·
           intro w'
           go_simp
           with_reducible rfl
          rotate_left
          ·
           simp only [Act.put, sa_, s0_, s1_, i64_w, i32_w]
           rfl
          refine pA_ 24 44 ?_ (b_ 44 33554431) (any_of HT_.out (by kernel_rfl)) rfl rfl (fun _ _ _ h => h) (by rfl) ?_ ?_ ?_ ?_
          rotate_left
          ·
           intro w'
           go_simp
           with_reducible rfl
          rotate_left
          ·
           simp only [Act.put, sa_, s0_, s1_, i64_w, i32_w]
           rfl
          refine tA_ 25 45 ?_ (b_ 44 67108863) (take_ofW HT_.out HW_.out (by kernel_rfl)) rfl rfl (fun _ _ _ h => h) (by rfl) ?_ hHeld ?_ ?_ ?_
          rotate_left
          ·
           rintro w' ⟨s0, s1, s2, s3, s4, s5, s6, s7, s8, s9, s10, s11, s12, s13, s14, s15, s16, s17, s18, s19⟩
           go_simp
           with_reducible rfl
          rotate_left
          ·
           simp only [Act.put, sa_, s0_, s1_, i64_w, i32_w]
           rfl
          refine pA_ 26 46 ?_ (b_ 44 134217727) (any_of HT_.out (by kernel_rfl)) rfl rfl (fun _ _ _ h => h) (by rfl) ?_ ?_ ?_ ?_
          rotate_left
          ·
           intro w'
           go_simp
           with_reducible rfl
          rotate_left
          ·
           simp only [Act.put, sa_, s0_, s1_, i64_w, i32_w]
           rfl
          refine pA_ 27 47 ?_ (b_ 44 268435455) (any_of HT_.out (by kernel_rfl)) rfl rfl (fun _ _ _ h => h) (by rfl) ?_ ?_ ?_ ?_
          rotate_left
          ·
           intro w'
           go_simp
           with_reducible rfl
          rotate_left
          ·
           simp only [Act.put, sa_, s0_, s1_, i64_w, i32_w]
           rfl
          refine pA_ 28 48 ?_ (b_ 44 536870911) (any_of HT_.out (by kernel_rfl)) rfl rfl (fun _ _ _ h => h) (by rfl) ?_ ?_ ?_ ?_
          rotate_left
          ·
           intro w'
           go_simp
           with_reducible rfl
          rotate_left
          ·
           simp only [Act.put, sa_, s0_, s1_, i64_w, i32_w]
           rfl
          refine pA_ 29 49 ?_ (b_ 44 1073741823) (any_of HT_.out (by kernel_rfl)) rfl rfl (fun _ _ _ h => h) (by rfl) ?_ ?_ ?_ ?_
          rotate_left
          ·
           intro w'
           go_simp
           with_reducible rfl
          rotate_left
          ·
           simp only [Act.put, sa_, s0_, s1_, i64_w, i32_w]
           rfl
          refine pA_ 31 51 ?_ (b_ 44 3221225471) (any_of HT_.out (by kernel_rfl)) rfl rfl (fun _ _ _ h => h) (by rfl) ?_ ?_ ?_ ?_
          rotate_left
          ·
           intro w'
           go_simp
           with_reducible rfl
          rotate_left
          ·
           simp only [Act.put, sa_, s0_, s1_, i64_w, i32_w]
           rfl
          refine pA_ 35 55 ?_ (b_ 44 37580963839) (any_of HT_.out (by kernel_rfl)) rfl rfl (fun _ _ _ h => h) (by rfl) ?_ ?_ ?_ ?_
          rotate_left
          ·
           intro w'
           go_simp
           with_reducible rfl
          rotate_left
          ·
           simp only [Act.put, sa_, s0_, s1_, i64_w, i32_w]
           rfl
          refine pA_ 37 57 ?_ (b_ 44 175019917311) (any_of HT_.out (by kernel_rfl)) rfl rfl (fun _ _ _ h => h) (by rfl) ?_ ?_ ?_ ?_
          rotate_left
          ·
           intro w'
           go_simp
           with_reducible rfl
          rotate_left
          ·
           simp only [Act.put, sa_, s0_, s1_, i64_w, i32_w]
           rfl
          refine tA_ 30 50 ?_ (b_ 44 176093659135) (take_ofW HT_.out HW_.out (by kernel_rfl)) rfl rfl (fun _ _ _ h => h) (by rfl) ?_ hHeld ?_ ?_ ?_
          rotate_left
          ·
           rintro w' ⟨s0, s1, s2, s3, s4, s5, s6, s7, s8, s9, s10, s11, s12, s13, s14, s15, s16, s17, s18, s19⟩
           go_simp
           with_reducible rfl
          rotate_left
          ·
           simp only [Act.put, sa_, s0_, s1_, i64_w, i32_w]
           rfl
          refine pA_ 32 52 ?_ (b_ 44 180388626431) (any_of HT_.out (by kernel_rfl)) rfl rfl (fun _ _ _ h => h) (by rfl) ?_ ?_ ?_ ?_
          rotate_left
          ·
           intro w'
           go_simp
           with_reducible rfl
          rotate_left
          ·
           simp only [Act.put, sa_, s0_, s1_, i64_w, i32_w]
           rfl
          refine pA_ 33 53 ?_ (b_ 44 188978561023) (any_of HT_.out (by kernel_rfl)) rfl rfl (fun _ _ _ h => h) (by rfl) ?_ ?_ ?_ ?_
          rotate_left
          ·
           intro w'
           go_simp
           with_reducible rfl
          rotate_left
          ·
           simp only [Act.put, sa_, s0_, s1_, i64_w, i32_w]
           rfl
          refine tA_ 34 54 ?_ (b_ 44 206158430207) (take_ofW HT_.out HW_.out (by kernel_rfl)) rfl rfl (fun _ _ _ h => h) (by rfl) ?_ hHeld ?_ ?_ ?_
          rotate_left
          ·
           rintro w' ⟨s0, s1, s2, s3, s4, s5, s6, s7, s8, s9, s10, s11, s12, s13, s14, s15, s16, s17, s18, s19⟩
           go_simp
           with_reducible rfl
          rotate_left
          ·
           simp only [Act.put, sa_, s0_, s1_, i64_w, i32_w]
           rfl
          refine tA_ 36 56 ?_ (b_ 44 274877906943) (take_ofW HT_.out HW_.out (by kernel_rfl)) rfl rfl (fun _ _ _ h => h) (by rfl) ?_ hHeld ?_ ?_ ?_
          rotate_left
          ·
           rintro w' ⟨s0, s1, s2, s3, s4, s5, s6, s7, s8, s9, s10, s11, s12, s13, s14, s15, s16, s17, s18, s19⟩
           go_simp
           with_reducible rfl
          rotate_left
          ·
           simp only [Act.put, sa_, s0_, s1_, i64_w, i32_w]
           rfl
          refine pA_ 38 58 ?_ (b_ 44 549755813887) (any_of HT_.out (by kernel_rfl)) rfl rfl (fun _ _ _ h => h) (by rfl) ?_ ?_ ?_ ?_
          rotate_left
          ·
           intro w'
           go_simp
           with_reducible rfl
          rotate_left
          ·
           simp only [Act.put, sa_, s0_, s1_, i64_w, i32_w]
           rfl
          refine pA_ 39 59 ?_ (b_ 44 1099511627775) (any_of HT_.out (by kernel_rfl)) rfl rfl (fun _ _ _ h => h) (by rfl) ?_ ?_ ?_ ?_
          rotate_left
          ·
           intro w'
           go_simp
           with_reducible rfl
          rotate_left
          ·
           simp only [Act.put, sa_, s0_, s1_, i64_w, i32_w]
           rfl
          refine tA_ 40 60 ?_ (b_ 44 2199023255551) (take_ofW HT_.out HW_.out (by kernel_rfl)) rfl rfl (fun _ _ _ h => h) (by rfl) ?_ hHeld ?_ ?_ ?_
          rotate_left
          ·
           rintro w' ⟨s0, s1, s2, s3, s4, s5, s6, s7, s8, s9, s10, s11, s12, s13, s14, s15, s16, s17, s18, s19⟩
           go_simp
           with_reducible rfl
          rotate_left
          ·
           simp only [Act.put, sa_, s0_, s1_, i64_w, i32_w]
           rfl
          refine one_ (i := 41) (N := some 61) (b_ 44 4398046511103) rfl rfl (one_of HT_.out (by kernel_rfl)) (by decide) (fun K hK => ?_)
          refine goes_ Try.func26 (by kernel_rfl) rfl #[.slice A258_0 ((rd_T40 l0_0 x5_1).f0).length c258_0, .slice A259_0 ((rd_T40 l1_0 x5_1).f0).length c259_0] (by rfl) rfl rfl (by (try simp only [List.map_toArray, List.map_cons, List.map_nil]); first | done | rfl | (simp only [List.length_drop, List.length_take]; rfl)) ?_
          with_reducible refine (millhandref23_Numbers.calls k1 _ _ ((rd_T40 l0_0 x5_1).f0) _ _ ((rd_T40 l1_0 x5_1).f0) true _ ?side1 ?side2 ?side3 ?side4 A14.out).mono ?_
          (case side1 => repeat (first | exact (Kd.C_below HR262_0.out HB.out) | (with_reducible refine Kd.C_alloc ?_ _) | (with_reducible refine Kd.C_drewN ?_ _) | (with_reducible refine Kd.C_drew ?_)))
          (case side2 => exact HC262_0.out)
          (case side3 => repeat (first | exact (Kd.C_below HR263_0.out HB.out) | (with_reducible refine Kd.C_alloc ?_ _) | (with_reducible refine Kd.C_drewN ?_ _) | (with_reducible refine Kd.C_drew ?_)))
          (case side4 => exact HC263_0.out)
          rintro e w' ⟨rfl, ⟨nd, rfl⟩⟩
          refine ⟨_, rfl, ?_⟩
          refine hK.out _ _ ⟨(blk_cell BK256.out 0).trans rfl, (blk_cell BK257.out 0).trans rfl, ((HB.out.cell (World.block_lt_of_cell? w _ hw258_0)).trans hw258_0), ((HB.out.cell (World.block_lt_of_cell? w _ hw258_1)).trans hw258_1), ((HB.out.cell (World.block_lt_of_cell? w _ hw258_2)).trans hw258_2), ((HB.out.cell (World.block_lt_of_cell? w _ hw259_0)).trans hw259_0), ((HB.out.cell (World.block_lt_of_cell? w _ hw259_1)).trans hw259_1), ((HB.out.cell (World.block_lt_of_cell? w _ hw259_2)).trans hw259_2), ((HB.out.cell (World.block_lt_of_cell? w _ hw260_0)).trans hw260_0), ((HB.out.cell (World.block_lt_of_cell? w _ hw260_1)).trans hw260_1), ((HB.out.cell (World.block_lt_of_cell? w _ hw260_2)).trans hw260_2), ((HB.out.cell (World.block_lt_of_cell? w _ hw261_0)).trans hw261_0), ((HB.out.cell (World.block_lt_of_cell? w _ hw261_1)).trans hw261_1), ((HB.out.cell (World.block_lt_of_cell? w _ hw261_2)).trans hw261_2), ((HB.out.cell (World.block_lt_of_cell? w _ hw262_0)).trans hw262_0), ((HB.out.cell (World.block_lt_of_cell? w _ hw262_1)).trans hw262_1), ((HB.out.cell (World.block_lt_of_cell? w _ hw262_2)).trans hw262_2), ((HB.out.cell (World.block_lt_of_cell? w _ hw263_0)).trans hw263_0), ((HB.out.cell (World.block_lt_of_cell? w _ hw263_1)).trans hw263_1), ((HB.out.cell (World.block_lt_of_cell? w _ hw263_2)).trans hw263_2)⟩ (fun hHeld => ?_)
          clear hK K
          refine norm_ (a' := ?_) ?_ ?_
          rotate_left
          ·
           show Act.put _ (some 61) _ = _
           simp only [Act.put, sa_, s0_, s1_, i64_w, i32_w]
           rfl
          refine pA_ 42 62 ?_ (b_ 44 8796093022207) (any_of HT_.out (by kernel_rfl)) rfl rfl (fun _ _ _ h => h) (by rfl) ?_ ?_ ?_ ?_
          rotate_left
          ·
           intro w'
           go_simp
           with_reducible rfl
          rotate_left
          ·
           simp only [Act.put, sa_, s0_, s1_, i64_w, i32_w]
           rfl
          refine pA_ 43 63 ?_ (b_ 44 17592186044415) (any_of HT_.out (by kernel_rfl)) rfl rfl (fun _ _ _ h => h) (by rfl) ?_ ?_ ?_ ?_
          rotate_left
          ·
           intro w'
           go_simp
           with_reducible rfl
          rotate_left
          ·
           simp only [Act.put, sa_, s0_, s1_, i64_w, i32_w]
           rfl
          refine done_ (done_of HT_.out (by kernel_rfl)) ?_
          try go_wp2
          go_roundg k1
          case measure => have := HK1.out; omega
          case rel => exact ⟨(wrap64 (x5_1 + 1)), (by first | rfl | (simp; done) | (simp [*]; done)), H', ⟨by have := HK1.out; omega⟩, ⟨by (with_reducible repeat (first | refine blk_drewN ?_ _ | refine blk_drew ?_ | refine blk_alloc ?_ _)); exact BK256.out⟩, ⟨by (with_reducible repeat (first | refine blk_drewN ?_ _ | refine blk_drew ?_ | refine blk_alloc ?_ _)); exact BK257.out⟩, ⟨by repeat (first | (with_reducible first | exact HB.out | apply below_alloc | apply pw_below_drewN | apply below_drew1 | refine below_set ?_ GE256.out | refine below_set ?_ GE257.out) | exact HB.out)⟩⟩
         ·
          replace c15 := Bool.eq_false_iff.mpr c15
          subst c15
          have H1 : (some false) = some r := by rw [if_neg (show ¬ (false = true) by decide)] at H; exact H
          clear H
          have H := H1
          clear H1
          obtain rfl := Option.some.inj H
          have hnb19 := NB256_257.out
          have hnc19 := NB257_256.out
          have hcz20_0 : wr.cell? ⟨gb256, 0, none⟩ = some (.slice A0_0 l0_0.length c0_0) := (blk_cell BK256.out 0).trans rfl
          have hfz20_0 := blk_frozen BK256.out 0
          try go_wp2
          obtain ⟨BK256, BK257, HB⟩ := And.intro (Aside0.mk (blk_drew BK256.out)) (And.intro (Aside0.mk (blk_drew BK257.out)) (Aside0.mk (below_drew1 HB.out)))
          have p258 : 0 ≤ (x5_1 : Int) := of_decide_eq_true (by first | (with_reducible assumption) | assumption)
          have q258 : x5_1 < (l0_0.length : Int) := of_decide_eq_true (by first | (with_reducible assumption) | assumption)
          obtain ⟨ad258, A258_0, c258_0, e258, hx258_0, hx258_1, hx258_2, hl258_0, hi258_0⟩ := at_T40 HR0_0.out x5_1 p258 q258
          have hw258_2 := hx258_2
          have hw258_1 := hx258_1
          have hw258_0 := hx258_0
          cases e258
          replace hx258_0 := cl_ HB.out hx258_0
          replace hx258_1 := cl_ HB.out hx258_1
          replace hx258_2 := cl_ HB.out hx258_2
          have HR258_0 := Aside0.mk hi258_0
          have HC258_0 := Aside0.mk hl258_0
          clear hi258_0 hl258_0
          replace p258 := eq_true p258
          replace q258 := eq_true q258
          have p259 : 0 ≤ (x5_1 : Int) := of_decide_eq_true (by first | (with_reducible assumption) | assumption)
          have q259 : x5_1 < (l1_0.length : Int) := of_decide_eq_true (by first | (with_reducible assumption) | assumption)
          obtain ⟨ad259, A259_0, c259_0, e259, hx259_0, hx259_1, hx259_2, hl259_0, hi259_0⟩ := at_T40 HR1_0.out x5_1 p259 q259
          have hw259_2 := hx259_2
          have hw259_1 := hx259_1
          have hw259_0 := hx259_0
          cases e259
          replace hx259_0 := cl_ HB.out hx259_0
          replace hx259_1 := cl_ HB.out hx259_1
          replace hx259_2 := cl_ HB.out hx259_2
          have HR259_0 := Aside0.mk hi259_0
          have HC259_0 := Aside0.mk hl259_0
          clear hi259_0 hl259_0
          replace p259 := eq_true p259
          replace q259 := eq_true q259
          have p260 : 0 ≤ (x5_1 : Int) := of_decide_eq_true (by first | (with_reducible assumption) | assumption)
          have q260 : x5_1 < (l0_0.length : Int) := of_decide_eq_true (by first | (with_reducible assumption) | assumption)
          obtain ⟨ad260, A260_0, c260_0, e260, hx260_0, hx260_1, hx260_2, hl260_0, hi260_0⟩ := at_T40 HR0_0.out x5_1 p260 q260
          have hw260_2 := hx260_2
          have hw260_1 := hx260_1
          have hw260_0 := hx260_0
          obtain rfl : ad258 = ad260 := (by injection e260)
          replace hx260_0 := cl_ HB.out hx260_0
          replace hx260_1 := cl_ HB.out hx260_1
          replace hx260_2 := cl_ HB.out hx260_2
          have HR260_0 := Aside0.mk hi260_0
          have HC260_0 := Aside0.mk hl260_0
          clear hi260_0 hl260_0
          replace p260 := eq_true p260
          replace q260 := eq_true q260
          have ea_ := Option.some.inj (hx258_0.symm.trans hx260_0)
          injection ea_ with ea_ en_ ec_
          subst ea_
          subst ec_
          clear en_
          have p261 : 0 ≤ (x5_1 : Int) := of_decide_eq_true (by first | (with_reducible assumption) | assumption)
          have q261 : x5_1 < (l1_0.length : Int) := of_decide_eq_true (by first | (with_reducible assumption) | assumption)
          obtain ⟨ad261, A261_0, c261_0, e261, hx261_0, hx261_1, hx261_2, hl261_0, hi261_0⟩ := at_T40 HR1_0.out x5_1 p261 q261
          have hw261_2 := hx261_2
          have hw261_1 := hx261_1
          have hw261_0 := hx261_0
          obtain rfl : ad259 = ad261 := (by injection e261)
          replace hx261_0 := cl_ HB.out hx261_0
          replace hx261_1 := cl_ HB.out hx261_1
          replace hx261_2 := cl_ HB.out hx261_2
          have HR261_0 := Aside0.mk hi261_0
          have HC261_0 := Aside0.mk hl261_0
          clear hi261_0 hl261_0
          replace p261 := eq_true p261
          replace q261 := eq_true q261
          have ea_ := Option.some.inj (hx259_0.symm.trans hx261_0)
          injection ea_ with ea_ en_ ec_
          subst ea_
          subst ec_
          clear en_
          have p262 : 0 ≤ (x5_1 : Int) := of_decide_eq_true (by first | (with_reducible assumption) | assumption)
          have q262 : x5_1 < (l0_0.length : Int) := of_decide_eq_true (by first | (with_reducible assumption) | assumption)
          obtain ⟨ad262, A262_0, c262_0, e262, hx262_0, hx262_1, hx262_2, hl262_0, hi262_0⟩ := at_T40 HR0_0.out x5_1 p262 q262
          have hw262_2 := hx262_2
          have hw262_1 := hx262_1
          have hw262_0 := hx262_0
          obtain rfl : ad258 = ad262 := (by injection e262)
          replace hx262_0 := cl_ HB.out hx262_0
          replace hx262_1 := cl_ HB.out hx262_1
          replace hx262_2 := cl_ HB.out hx262_2
          have HR262_0 := Aside0.mk hi262_0
          have HC262_0 := Aside0.mk hl262_0
          clear hi262_0 hl262_0
          replace p262 := eq_true p262
          replace q262 := eq_true q262
          have ea_ := Option.some.inj (hx258_0.symm.trans hx262_0)
          injection ea_ with ea_ en_ ec_
          subst ea_
          subst ec_
          clear en_
          have p263 : 0 ≤ (x5_1 : Int) := of_decide_eq_true (by first | (with_reducible assumption) | assumption)
          have q263 : x5_1 < (l1_0.length : Int) := of_decide_eq_true (by first | (with_reducible assumption) | assumption)
          obtain ⟨ad263, A263_0, c263_0, e263, hx263_0, hx263_1, hx263_2, hl263_0, hi263_0⟩ := at_T40 HR1_0.out x5_1 p263 q263
          have hw263_2 := hx263_2
          have hw263_1 := hx263_1
          have hw263_0 := hx263_0
          obtain rfl : ad259 = ad263 := (by injection e263)
          replace hx263_0 := cl_ HB.out hx263_0
          replace hx263_1 := cl_ HB.out hx263_1
          replace hx263_2 := cl_ HB.out hx263_2
          have HR263_0 := Aside0.mk hi263_0
          have HC263_0 := Aside0.mk hl263_0
          clear hi263_0 hl263_0
          replace p263 := eq_true p263
          replace q263 := eq_true q263
          have ea_ := Option.some.inj (hx259_0.symm.trans hx263_0)
          injection ea_ with ea_ en_ ec_
          subst ea_
          subst ec_
          clear en_
          refine start_ (n := 44) (S := fun w' => w'.cell? ⟨gb256, 0, none⟩ = some (.slice (some ad258) l0_0.length c0_0) ∧ w'.cell? ⟨gb257, 0, none⟩ = some (.slice (some ad259) l1_0.length c1_0) ∧ w'.cell? (ad258.add ((x5_1).toNat * 3)) = some (.slice A258_0 ((rd_T40 l0_0 x5_1).f0).length c258_0) ∧ w'.cell? ⟨(ad258.add ((x5_1).toNat * 3)).block, (ad258.add ((x5_1).toNat * 3)).off + 1, none⟩ = some (.int .i64 ((rd_T40 l0_0 x5_1).f1)) ∧ w'.cell? ⟨(ad258.add ((x5_1).toNat * 3)).block, (ad258.add ((x5_1).toNat * 3)).off + 2, none⟩ = some (.int .i64 ((rd_T40 l0_0 x5_1).f2)) ∧ w'.cell? (ad259.add ((x5_1).toNat * 3)) = some (.slice A259_0 ((rd_T40 l1_0 x5_1).f0).length c259_0) ∧ w'.cell? ⟨(ad259.add ((x5_1).toNat * 3)).block, (ad259.add ((x5_1).toNat * 3)).off + 1, none⟩ = some (.int .i64 ((rd_T40 l1_0 x5_1).f1)) ∧ w'.cell? ⟨(ad259.add ((x5_1).toNat * 3)).block, (ad259.add ((x5_1).toNat * 3)).off + 2, none⟩ = some (.int .i64 ((rd_T40 l1_0 x5_1).f2)) ∧ w'.cell? (ad258.add ((x5_1).toNat * 3)) = some (.slice A258_0 ((rd_T40 l0_0 x5_1).f0).length c258_0) ∧ w'.cell? ⟨(ad258.add ((x5_1).toNat * 3)).block, (ad258.add ((x5_1).toNat * 3)).off + 1, none⟩ = some (.int .i64 ((rd_T40 l0_0 x5_1).f1)) ∧ w'.cell? ⟨(ad258.add ((x5_1).toNat * 3)).block, (ad258.add ((x5_1).toNat * 3)).off + 2, none⟩ = some (.int .i64 ((rd_T40 l0_0 x5_1).f2)) ∧ w'.cell? (ad259.add ((x5_1).toNat * 3)) = some (.slice A259_0 ((rd_T40 l1_0 x5_1).f0).length c259_0) ∧ w'.cell? ⟨(ad259.add ((x5_1).toNat * 3)).block, (ad259.add ((x5_1).toNat * 3)).off + 1, none⟩ = some (.int .i64 ((rd_T40 l1_0 x5_1).f1)) ∧ w'.cell? ⟨(ad259.add ((x5_1).toNat * 3)).block, (ad259.add ((x5_1).toNat * 3)).off + 2, none⟩ = some (.int .i64 ((rd_T40 l1_0 x5_1).f2)) ∧ w'.cell? (ad258.add ((x5_1).toNat * 3)) = some (.slice A258_0 ((rd_T40 l0_0 x5_1).f0).length c258_0) ∧ w'.cell? ⟨(ad258.add ((x5_1).toNat * 3)).block, (ad258.add ((x5_1).toNat * 3)).off + 1, none⟩ = some (.int .i64 ((rd_T40 l0_0 x5_1).f1)) ∧ w'.cell? ⟨(ad258.add ((x5_1).toNat * 3)).block, (ad258.add ((x5_1).toNat * 3)).off + 2, none⟩ = some (.int .i64 ((rd_T40 l0_0 x5_1).f2)) ∧ w'.cell? (ad259.add ((x5_1).toNat * 3)) = some (.slice A259_0 ((rd_T40 l1_0 x5_1).f0).length c259_0) ∧ w'.cell? ⟨(ad259.add ((x5_1).toNat * 3)).block, (ad259.add ((x5_1).toNat * 3)).off + 1, none⟩ = some (.int .i64 ((rd_T40 l1_0 x5_1).f1)) ∧ w'.cell? ⟨(ad259.add ((x5_1).toNat * 3)).block, (ad259.add ((x5_1).toNat * 3)).off + 2, none⟩ = some (.int .i64 ((rd_T40 l1_0 x5_1).f2))) (ds := []) (b_ 44 0) (by kernel_rfl) rfl rfl ⟨(blk_cell BK256.out 0).trans rfl, (blk_cell BK257.out 0).trans rfl, (cl_ HB.out hw258_0), (cl_ HB.out hw258_1), (cl_ HB.out hw258_2), (cl_ HB.out hw259_0), (cl_ HB.out hw259_1), (cl_ HB.out hw259_2), (cl_ HB.out hw260_0), (cl_ HB.out hw260_1), (cl_ HB.out hw260_2), (cl_ HB.out hw261_0), (cl_ HB.out hw261_1), (cl_ HB.out hw261_2), (cl_ HB.out hw262_0), (cl_ HB.out hw262_1), (cl_ HB.out hw262_2), (cl_ HB.out hw263_0), (cl_ HB.out hw263_1), (cl_ HB.out hw263_2)⟩ (fun hHeld => ?_); refine with_tabW millhandref23_Same.tab6 millhandref23_Same.bits6 (fun HT_ HW_ => ?_)
          generalize wr.drew = w21 at BK256 BK257 HB HR258_0 HR259_0 HR260_0 HR261_0 HR262_0 HR263_0 hx258_0 hx258_1 hx258_2 hx259_0 hx259_1 hx259_2 hx260_0 hx260_1 hx260_2 hx261_0 hx261_1 hx261_2 hx262_0 hx262_1 hx262_2 hx263_0 hx263_1 hx263_2 hHeld ⊢
          refine pA_ 0 20 ?_ (b_ 44 1) (any_of HT_.out (by kernel_rfl)) rfl rfl (fun _ _ _ h => h) (by rfl) ?_ ?_ ?_ ?_
          rotate_left
          ·
           intro w'
           go_simp
           with_reducible rfl
          rotate_left
          ·
           simp only [Act.put, sa_, s0_, s1_, i64_w, i32_w]
           rfl
          refine pA_ 2 22 ?_ (b_ 44 5) (any_of HT_.out (by kernel_rfl)) rfl rfl (fun _ _ _ h => h) (by rfl) ?_ ?_ ?_ ?_
          rotate_left
          ·
           intro w'
           go_simp
           with_reducible rfl
          rotate_left
          ·
           simp only [Act.put, sa_, s0_, s1_, i64_w, i32_w]
           rfl
          refine pA_ 6 26 ?_ (b_ 44 69) (any_of HT_.out (by kernel_rfl)) rfl rfl (fun _ _ _ h => h) (by rfl) ?_ ?_ ?_ ?_
          rotate_left
          ·
           intro w'
           go_simp
           with_reducible rfl
          rotate_left
          ·
           simp only [Act.put, sa_, s0_, s1_, i64_w, i32_w]
           rfl
          refine pA_ 8 28 ?_ (b_ 44 325) (any_of HT_.out (by kernel_rfl)) rfl rfl (fun _ _ _ h => h) (by rfl) ?_ ?_ ?_ ?_
          rotate_left
          ·
           intro w'
           go_simp
           with_reducible rfl
          rotate_left
          ·
           simp only [Act.put, sa_, s0_, s1_, i64_w, i32_w]
           rfl
          refine tA_ 1 21 ?_ (b_ 44 327) (take_ofW HT_.out HW_.out (by kernel_rfl)) rfl rfl (fun _ _ _ h => h) (by rfl) ?_ hHeld ?_ ?_ ?_
          rotate_left
          ·
           rintro w' ⟨s0, s1, s2, s3, s4, s5, s6, s7, s8, s9, s10, s11, s12, s13, s14, s15, s16, s17, s18, s19⟩
           go_simp
           with_reducible rfl
          rotate_left
          ·
           simp only [Act.put, sa_, s0_, s1_, i64_w, i32_w]
           rfl
          refine pA_ 3 23 ?_ (b_ 44 335) (any_of HT_.out (by kernel_rfl)) rfl rfl (fun _ _ _ h => h) (by rfl) ?_ ?_ ?_ ?_
          rotate_left
          ·
           intro w'
           go_simp
           with_reducible rfl
          rotate_left
          ·
           simp only [Act.put, sa_, s0_, s1_, i64_w, i32_w]
           rfl
          refine pA_ 4 24 ?_ (b_ 44 351) (any_of HT_.out (by kernel_rfl)) rfl rfl (fun _ _ _ h => h) (by rfl) ?_ ?_ ?_ ?_
          rotate_left
          ·
           intro w'
           go_simp
           with_reducible rfl
          rotate_left
          ·
           simp only [Act.put, sa_, s0_, s1_, i64_w, i32_w]
           rfl
          refine tA_ 5 25 ?_ (b_ 44 383) (take_ofW HT_.out HW_.out (by kernel_rfl)) rfl rfl (fun _ _ _ h => h) (by rfl) ?_ hHeld ?_ ?_ ?_
          rotate_left
          ·
           rintro w' ⟨s0, s1, s2, s3, s4, s5, s6, s7, s8, s9, s10, s11, s12, s13, s14, s15, s16, s17, s18, s19⟩
           go_simp
           with_reducible rfl
          rotate_left
          ·
           simp only [Act.put, sa_, s0_, s1_, i64_w, i32_w]
           rfl
          refine tA_ 7 27 ?_ (b_ 44 511) (take_ofW HT_.out HW_.out (by kernel_rfl)) rfl rfl (fun _ _ _ h => h) (by rfl) ?_ hHeld ?_ ?_ ?_
          rotate_left
          ·
           rintro w' ⟨s0, s1, s2, s3, s4, s5, s6, s7, s8, s9, s10, s11, s12, s13, s14, s15, s16, s17, s18, s19⟩
           go_simp
           with_reducible rfl
          rotate_left
          ·
           simp only [Act.put, sa_, s0_, s1_, i64_w, i32_w]
           rfl
          refine pA_ 9 29 ?_ (b_ 44 1023) (any_of HT_.out (by kernel_rfl)) rfl rfl (fun _ _ _ h => h) (by rfl) ?_ ?_ ?_ ?_
          rotate_left
          ·
           intro w'
           go_simp
           with_reducible rfl
          rotate_left
          ·
           simp only [Act.put, sa_, s0_, s1_, i64_w, i32_w]
           rfl
          refine pA_ 10 30 ?_ (b_ 44 2047) (any_of HT_.out (by kernel_rfl)) rfl rfl (fun _ _ _ h => h) (by rfl) ?_ ?_ ?_ ?_
          rotate_left
          ·
           intro w'
           go_simp
           with_reducible rfl
          rotate_left
          ·
           simp only [Act.put, sa_, s0_, s1_, i64_w, i32_w]
           rfl
          refine tA_ 11 31 ?_ (b_ 44 4095) (take_ofW HT_.out HW_.out (by kernel_rfl)) rfl rfl (fun _ _ _ h => h) (by rfl) ?_ hHeld ?_ ?_ ?_
          rotate_left
          ·
           rintro w' ⟨s0, s1, s2, s3, s4, s5, s6, s7, s8, s9, s10, s11, s12, s13, s14, s15, s16, s17, s18, s19⟩
           go_simp
           with_reducible rfl
          rotate_left
          ·
           simp only [Act.put, sa_, s0_, s1_, i64_w, i32_w]
           rfl
          refine pA_ 12 32 ?_ (b_ 44 8191) (any_of HT_.out (by kernel_rfl)) rfl rfl (fun _ _ _ h => h) (by rfl) ?_ ?_ ?_ ?_
          rotate_left
          ·
           intro w'
           go_simp
           with_reducible rfl
          rotate_left
          ·
           simp only [Act.put, sa_, s0_, s1_, i64_w, i32_w]
           rfl
          refine pA_ 13 33 ?_ (b_ 44 16383) (any_of HT_.out (by kernel_rfl)) rfl rfl (fun _ _ _ h => h) (by rfl) ?_ ?_ ?_ ?_
          rotate_left
          ·
           intro w'
           go_simp
           with_reducible rfl
          rotate_left
          ·
           simp only [Act.put, sa_, s0_, s1_, i64_w, i32_w]
           rfl
          refine pA_ 14 34 ?_ (b_ 44 32767) (any_of HT_.out (by kernel_rfl)) rfl rfl (fun _ _ _ h => h) (by rfl) ?_ ?_ ?_ ?_
          rotate_left
          ·
           intro w'
           go_simp
           with_reducible rfl
          rotate_left
          ·
           simp only [Act.put, sa_, s0_, s1_, i64_w, i32_w]
           rfl
          refine pA_ 16 36 ?_ (b_ 44 98303) (any_of HT_.out (by kernel_rfl)) rfl rfl (fun _ _ _ h => h) (by rfl) ?_ ?_ ?_ ?_
          rotate_left
          ·
           intro w'
           go_simp
           with_reducible rfl
          rotate_left
          ·
           simp only [Act.put, sa_, s0_, s1_, i64_w, i32_w]
           rfl
          refine pA_ 20 40 ?_ (b_ 44 1146879) (any_of HT_.out (by kernel_rfl)) rfl rfl (fun _ _ _ h => h) (by rfl) ?_ ?_ ?_ ?_
          rotate_left
          ·
           intro w'
           go_simp
           with_reducible rfl
          rotate_left
          ·
           simp only [Act.put, sa_, s0_, s1_, i64_w, i32_w]
           rfl
          refine pA_ 22 42 ?_ (b_ 44 5341183) (any_of HT_.out (by kernel_rfl)) rfl rfl (fun _ _ _ h => h) (by rfl) ?_ ?_ ?_ ?_
          rotate_left
          ·
           intro w'
           go_simp
           with_reducible rfl
          rotate_left
          ·
           simp only [Act.put, sa_, s0_, s1_, i64_w, i32_w]
           rfl
          refine tA_ 15 35 ?_ (b_ 44 5373951) (take_ofW HT_.out HW_.out (by kernel_rfl)) rfl rfl (fun _ _ _ h => h) (by rfl) ?_ hHeld ?_ ?_ ?_
          rotate_left
          ·
           rintro w' ⟨s0, s1, s2, s3, s4, s5, s6, s7, s8, s9, s10, s11, s12, s13, s14, s15, s16, s17, s18, s19⟩
           go_simp
           with_reducible rfl
          rotate_left
          ·
           simp only [Act.put, sa_, s0_, s1_, i64_w, i32_w]
           rfl
          refine pA_ 17 37 ?_ (b_ 44 5505023) (any_of HT_.out (by kernel_rfl)) rfl rfl (fun _ _ _ h => h) (by rfl) ?_ ?_ ?_ ?_
          rotate_left
          ·
           intro w'
           go_simp
           with_reducible rfl
          rotate_left
          ·
           simp only [Act.put, sa_, s0_, s1_, i64_w, i32_w]
           rfl
          refine pA_ 18 38 ?_ (b_ 44 5767167) (any_of HT_.out (by kernel_rfl)) rfl rfl (fun _ _ _ h => h) (by rfl) ?_ ?_ ?_ ?_
          rotate_left
          ·
           intro w'
           go_simp
           with_reducible rfl
          rotate_left
          ·
           simp only [Act.put, sa_, s0_, s1_, i64_w, i32_w]
           rfl
          refine tA_ 19 39 ?_ (b_ 44 6291455) (take_ofW HT_.out HW_.out (by kernel_rfl)) rfl rfl (fun _ _ _ h => h) (by rfl) ?_ hHeld ?_ ?_ ?_
          rotate_left
          ·
           rintro w' ⟨s0, s1, s2, s3, s4, s5, s6, s7, s8, s9, s10, s11, s12, s13, s14, s15, s16, s17, s18, s19⟩
           go_simp
           with_reducible rfl
          rotate_left
          ·
           simp only [Act.put, sa_, s0_, s1_, i64_w, i32_w]
           rfl
          refine tA_ 21 41 ?_ (b_ 44 8388607) (take_ofW HT_.out HW_.out (by kernel_rfl)) rfl rfl (fun _ _ _ h => h) (by rfl) ?_ hHeld ?_ ?_ ?_
          rotate_left
          ·
           rintro w' ⟨s0, s1, s2, s3, s4, s5, s6, s7, s8, s9, s10, s11, s12, s13, s14, s15, s16, s17, s18, s19⟩
           go_simp
           with_reducible rfl
          rotate_left
          ·
           simp only [Act.put, sa_, s0_, s1_, i64_w, i32_w]
           rfl
          refine pA_ 23 43 ?_ (b_ 44 16777215) (any_of HT_.out (by kernel_rfl)) rfl rfl (fun _ _ _ h => h) (by rfl) ?_ ?_ ?_ ?_
          rotate_left
          ·
           intro w'
           go_simp
           with_reducible rfl
          rotate_left
          ·
           simp only [Act.put, sa_, s0_, s1_, i64_w, i32_w]
           rfl
          refine pA_ 24 44 ?_ (b_ 44 33554431) (any_of HT_.out (by kernel_rfl)) rfl rfl (fun _ _ _ h => h) (by rfl) ?_ ?_ ?_ ?_
          rotate_left
          ·
           intro w'
           go_simp
           with_reducible rfl
          rotate_left
          ·
           simp only [Act.put, sa_, s0_, s1_, i64_w, i32_w]
           rfl
          refine tA_ 25 45 ?_ (b_ 44 67108863) (take_ofW HT_.out HW_.out (by kernel_rfl)) rfl rfl (fun _ _ _ h => h) (by rfl) ?_ hHeld ?_ ?_ ?_
          rotate_left
          ·
           rintro w' ⟨s0, s1, s2, s3, s4, s5, s6, s7, s8, s9, s10, s11, s12, s13, s14, s15, s16, s17, s18, s19⟩
           go_simp
           with_reducible rfl
          rotate_left
          ·
           simp only [Act.put, sa_, s0_, s1_, i64_w, i32_w]
           rfl
          refine pA_ 26 46 ?_ (b_ 44 134217727) (any_of HT_.out (by kernel_rfl)) rfl rfl (fun _ _ _ h => h) (by rfl) ?_ ?_ ?_ ?_
          rotate_left
          ·
           intro w'
           go_simp
           with_reducible rfl
          rotate_left
          ·
           simp only [Act.put, sa_, s0_, s1_, i64_w, i32_w]
           rfl
          refine pA_ 27 47 ?_ (b_ 44 268435455) (any_of HT_.out (by kernel_rfl)) rfl rfl (fun _ _ _ h => h) (by rfl) ?_ ?_ ?_ ?_
          rotate_left
          ·
           intro w'
           go_simp
           with_reducible rfl
          rotate_left
          ·
           simp only [Act.put, sa_, s0_, s1_, i64_w, i32_w]
           rfl
          refine pA_ 28 48 ?_ (b_ 44 536870911) (any_of HT_.out (by kernel_rfl)) rfl rfl (fun _ _ _ h => h) (by rfl) ?_ ?_ ?_ ?_
          rotate_left
          ·
           intro w'
           go_simp
           with_reducible rfl
          rotate_left
          ·
           simp only [Act.put, sa_, s0_, s1_, i64_w, i32_w]
           rfl
          refine pA_ 29 49 ?_ (b_ 44 1073741823) (any_of HT_.out (by kernel_rfl)) rfl rfl (fun _ _ _ h => h) (by rfl) ?_ ?_ ?_ ?_
          rotate_left
          ·
           intro w'
           go_simp
           with_reducible rfl
          rotate_left
          ·
           simp only [Act.put, sa_, s0_, s1_, i64_w, i32_w]
           rfl
          refine pA_ 31 51 ?_ (b_ 44 3221225471) (any_of HT_.out (by kernel_rfl)) rfl rfl (fun _ _ _ h => h) (by rfl) ?_ ?_ ?_ ?_
          rotate_left
          ·
           intro w'
           go_simp
           with_reducible rfl
          rotate_left
          ·
           simp only [Act.put, sa_, s0_, s1_, i64_w, i32_w]
           rfl
          refine pA_ 35 55 ?_ (b_ 44 37580963839) (any_of HT_.out (by kernel_rfl)) rfl rfl (fun _ _ _ h => h) (by rfl) ?_ ?_ ?_ ?_
          rotate_left
          ·
           intro w'
           go_simp
           with_reducible rfl
          rotate_left
          ·
           simp only [Act.put, sa_, s0_, s1_, i64_w, i32_w]
           rfl
          refine pA_ 37 57 ?_ (b_ 44 175019917311) (any_of HT_.out (by kernel_rfl)) rfl rfl (fun _ _ _ h => h) (by rfl) ?_ ?_ ?_ ?_
          rotate_left
          ·
           intro w'
           go_simp
           with_reducible rfl
          rotate_left
          ·
           simp only [Act.put, sa_, s0_, s1_, i64_w, i32_w]
           rfl
          refine tA_ 30 50 ?_ (b_ 44 176093659135) (take_ofW HT_.out HW_.out (by kernel_rfl)) rfl rfl (fun _ _ _ h => h) (by rfl) ?_ hHeld ?_ ?_ ?_
          rotate_left
          ·
           rintro w' ⟨s0, s1, s2, s3, s4, s5, s6, s7, s8, s9, s10, s11, s12, s13, s14, s15, s16, s17, s18, s19⟩
           go_simp
           with_reducible rfl
          rotate_left
          ·
           simp only [Act.put, sa_, s0_, s1_, i64_w, i32_w]
           rfl
          refine pA_ 32 52 ?_ (b_ 44 180388626431) (any_of HT_.out (by kernel_rfl)) rfl rfl (fun _ _ _ h => h) (by rfl) ?_ ?_ ?_ ?_
          rotate_left
          ·
           intro w'
           go_simp
           with_reducible rfl
          rotate_left
          ·
           simp only [Act.put, sa_, s0_, s1_, i64_w, i32_w]
           rfl
          refine pA_ 33 53 ?_ (b_ 44 188978561023) (any_of HT_.out (by kernel_rfl)) rfl rfl (fun _ _ _ h => h) (by rfl) ?_ ?_ ?_ ?_
          rotate_left
          ·
           intro w'
           go_simp
           with_reducible rfl
          rotate_left
          ·
           simp only [Act.put, sa_, s0_, s1_, i64_w, i32_w]
           rfl
          refine tA_ 34 54 ?_ (b_ 44 206158430207) (take_ofW HT_.out HW_.out (by kernel_rfl)) rfl rfl (fun _ _ _ h => h) (by rfl) ?_ hHeld ?_ ?_ ?_
          rotate_left
          ·
           rintro w' ⟨s0, s1, s2, s3, s4, s5, s6, s7, s8, s9, s10, s11, s12, s13, s14, s15, s16, s17, s18, s19⟩
           go_simp
           with_reducible rfl
          rotate_left
          ·
           simp only [Act.put, sa_, s0_, s1_, i64_w, i32_w]
           rfl
          refine tA_ 36 56 ?_ (b_ 44 274877906943) (take_ofW HT_.out HW_.out (by kernel_rfl)) rfl rfl (fun _ _ _ h => h) (by rfl) ?_ hHeld ?_ ?_ ?_
          rotate_left
          ·
           rintro w' ⟨s0, s1, s2, s3, s4, s5, s6, s7, s8, s9, s10, s11, s12, s13, s14, s15, s16, s17, s18, s19⟩
           go_simp
           with_reducible rfl
          rotate_left
          ·
           simp only [Act.put, sa_, s0_, s1_, i64_w, i32_w]
           rfl
          refine pA_ 38 58 ?_ (b_ 44 549755813887) (any_of HT_.out (by kernel_rfl)) rfl rfl (fun _ _ _ h => h) (by rfl) ?_ ?_ ?_ ?_
          rotate_left
          ·
           intro w'
           go_simp
           with_reducible rfl
          rotate_left
          ·
           simp only [Act.put, sa_, s0_, s1_, i64_w, i32_w]
           rfl
          refine pA_ 39 59 ?_ (b_ 44 1099511627775) (any_of HT_.out (by kernel_rfl)) rfl rfl (fun _ _ _ h => h) (by rfl) ?_ ?_ ?_ ?_
          rotate_left
          ·
           intro w'
           go_simp
           with_reducible rfl
          rotate_left
          ·
           simp only [Act.put, sa_, s0_, s1_, i64_w, i32_w]
           rfl
          refine tA_ 40 60 ?_ (b_ 44 2199023255551) (take_ofW HT_.out HW_.out (by kernel_rfl)) rfl rfl (fun _ _ _ h => h) (by rfl) ?_ hHeld ?_ ?_ ?_
          rotate_left
          ·
           rintro w' ⟨s0, s1, s2, s3, s4, s5, s6, s7, s8, s9, s10, s11, s12, s13, s14, s15, s16, s17, s18, s19⟩
           go_simp
           with_reducible rfl
          rotate_left
          ·
           simp only [Act.put, sa_, s0_, s1_, i64_w, i32_w]
           rfl
          refine one_ (i := 41) (N := some 61) (b_ 44 4398046511103) rfl rfl (one_of HT_.out (by kernel_rfl)) (by decide) (fun K hK => ?_)
          refine goes_ Try.func26 (by kernel_rfl) rfl #[.slice A258_0 ((rd_T40 l0_0 x5_1).f0).length c258_0, .slice A259_0 ((rd_T40 l1_0 x5_1).f0).length c259_0] (by rfl) rfl rfl (by (try simp only [List.map_toArray, List.map_cons, List.map_nil]); first | done | rfl | (simp only [List.length_drop, List.length_take]; rfl)) ?_
          with_reducible refine (millhandref23_Numbers.calls k1 _ _ ((rd_T40 l0_0 x5_1).f0) _ _ ((rd_T40 l1_0 x5_1).f0) false _ ?side1 ?side2 ?side3 ?side4 A14.out).mono ?_
          (case side1 => repeat (first | exact (Kd.C_below HR262_0.out HB.out) | (with_reducible refine Kd.C_alloc ?_ _) | (with_reducible refine Kd.C_drewN ?_ _) | (with_reducible refine Kd.C_drew ?_)))
          (case side2 => exact HC262_0.out)
          (case side3 => repeat (first | exact (Kd.C_below HR263_0.out HB.out) | (with_reducible refine Kd.C_alloc ?_ _) | (with_reducible refine Kd.C_drewN ?_ _) | (with_reducible refine Kd.C_drew ?_)))
          (case side4 => exact HC263_0.out)
          rintro e w' ⟨rfl, ⟨nd, rfl⟩⟩
          refine ⟨_, rfl, ?_⟩
          refine hK.out _ _ ⟨(blk_cell BK256.out 0).trans rfl, (blk_cell BK257.out 0).trans rfl, ((HB.out.cell (World.block_lt_of_cell? w _ hw258_0)).trans hw258_0), ((HB.out.cell (World.block_lt_of_cell? w _ hw258_1)).trans hw258_1), ((HB.out.cell (World.block_lt_of_cell? w _ hw258_2)).trans hw258_2), ((HB.out.cell (World.block_lt_of_cell? w _ hw259_0)).trans hw259_0), ((HB.out.cell (World.block_lt_of_cell? w _ hw259_1)).trans hw259_1), ((HB.out.cell (World.block_lt_of_cell? w _ hw259_2)).trans hw259_2), ((HB.out.cell (World.block_lt_of_cell? w _ hw260_0)).trans hw260_0), ((HB.out.cell (World.block_lt_of_cell? w _ hw260_1)).trans hw260_1), ((HB.out.cell (World.block_lt_of_cell? w _ hw260_2)).trans hw260_2), ((HB.out.cell (World.block_lt_of_cell? w _ hw261_0)).trans hw261_0), ((HB.out.cell (World.block_lt_of_cell? w _ hw261_1)).trans hw261_1), ((HB.out.cell (World.block_lt_of_cell? w _ hw261_2)).trans hw261_2), ((HB.out.cell (World.block_lt_of_cell? w _ hw262_0)).trans hw262_0), ((HB.out.cell (World.block_lt_of_cell? w _ hw262_1)).trans hw262_1), ((HB.out.cell (World.block_lt_of_cell? w _ hw262_2)).trans hw262_2), ((HB.out.cell (World.block_lt_of_cell? w _ hw263_0)).trans hw263_0), ((HB.out.cell (World.block_lt_of_cell? w _ hw263_1)).trans hw263_1), ((HB.out.cell (World.block_lt_of_cell? w _ hw263_2)).trans hw263_2)⟩ (fun hHeld => ?_)
          clear hK K
          refine norm_ (a' := ?_) ?_ ?_
          rotate_left
          ·
           show Act.put _ (some 61) _ = _
           simp only [Act.put, sa_, s0_, s1_, i64_w, i32_w]
           rfl
          refine pA_ 42 62 ?_ (b_ 44 8796093022207) (any_of HT_.out (by kernel_rfl)) rfl rfl (fun _ _ _ h => h) (by rfl) ?_ ?_ ?_ ?_
          rotate_left
          ·
           intro w'
           go_simp
           with_reducible rfl
          rotate_left
          ·
           simp only [Act.put, sa_, s0_, s1_, i64_w, i32_w]
           rfl
          refine pA_ 43 63 ?_ (b_ 44 17592186044415) (any_of HT_.out (by kernel_rfl)) rfl rfl (fun _ _ _ h => h) (by rfl) ?_ ?_ ?_ ?_
          rotate_left
          ·
           intro w'
           go_simp
           with_reducible rfl
          rotate_left
          ·
           simp only [Act.put, sa_, s0_, s1_, i64_w, i32_w]
           rfl
          refine done_ (done_of HT_.out (by kernel_rfl)) ?_
          try go_wp2
          go_ret
          exact ⟨by first | rfl | (simp [errW_none, errW_some] <;> rfl) | (simp [*, errW_none, errW_some] <;> rfl) | exact ret_ie _ | (simp [*, errW_none, errW_some, bne]; done), by repeat (first | (with_reducible first | exact HB.out | apply below_alloc | apply pw_below_drewN | apply below_drew1 | refine below_set ?_ GE256.out | refine below_set ?_ GE257.out) | exact HB.out)⟩
        ·
         rw [if_neg c13] at H
         have c13b0 : (((rd_T40 l0_0 x5_1).f2) == ((rd_T40 l1_0 x5_1).f2)) = false := beq_eq_false_iff_ne.mpr c13
         have c13b1 : (((rd_T40 l0_0 x5_1).f2) != ((rd_T40 l1_0 x5_1).f2)) = true := bne_iff_ne.mpr c13
         obtain rfl := Option.some.inj H
         have hnb22 := NB256_257.out
         have hnc22 := NB257_256.out
         have hcz23_0 : wr.cell? ⟨gb256, 0, none⟩ = some (.slice A0_0 l0_0.length c0_0) := (blk_cell BK256.out 0).trans rfl
         have hfz23_0 := blk_frozen BK256.out 0
         try go_wp2
         obtain ⟨BK256, BK257, HB⟩ := And.intro (Aside0.mk (blk_drew BK256.out)) (And.intro (Aside0.mk (blk_drew BK257.out)) (Aside0.mk (below_drew1 HB.out)))
         have p258 : 0 ≤ (x5_1 : Int) := of_decide_eq_true (by first | (with_reducible assumption) | assumption)
         have q258 : x5_1 < (l0_0.length : Int) := of_decide_eq_true (by first | (with_reducible assumption) | assumption)
         obtain ⟨ad258, A258_0, c258_0, e258, hx258_0, hx258_1, hx258_2, hl258_0, hi258_0⟩ := at_T40 HR0_0.out x5_1 p258 q258
         have hw258_2 := hx258_2
         have hw258_1 := hx258_1
         have hw258_0 := hx258_0
         cases e258
         replace hx258_0 := cl_ HB.out hx258_0
         replace hx258_1 := cl_ HB.out hx258_1
         replace hx258_2 := cl_ HB.out hx258_2
         have HR258_0 := Aside0.mk hi258_0
         have HC258_0 := Aside0.mk hl258_0
         clear hi258_0 hl258_0
         replace p258 := eq_true p258
         replace q258 := eq_true q258
         have p259 : 0 ≤ (x5_1 : Int) := of_decide_eq_true (by first | (with_reducible assumption) | assumption)
         have q259 : x5_1 < (l1_0.length : Int) := of_decide_eq_true (by first | (with_reducible assumption) | assumption)
         obtain ⟨ad259, A259_0, c259_0, e259, hx259_0, hx259_1, hx259_2, hl259_0, hi259_0⟩ := at_T40 HR1_0.out x5_1 p259 q259
         have hw259_2 := hx259_2
         have hw259_1 := hx259_1
         have hw259_0 := hx259_0
         cases e259
         replace hx259_0 := cl_ HB.out hx259_0
         replace hx259_1 := cl_ HB.out hx259_1
         replace hx259_2 := cl_ HB.out hx259_2
         have HR259_0 := Aside0.mk hi259_0
         have HC259_0 := Aside0.mk hl259_0
         clear hi259_0 hl259_0
         replace p259 := eq_true p259
         replace q259 := eq_true q259
         have p260 : 0 ≤ (x5_1 : Int) := of_decide_eq_true (by first | (with_reducible assumption) | assumption)
         have q260 : x5_1 < (l0_0.length : Int) := of_decide_eq_true (by first | (with_reducible assumption) | assumption)
         obtain ⟨ad260, A260_0, c260_0, e260, hx260_0, hx260_1, hx260_2, hl260_0, hi260_0⟩ := at_T40 HR0_0.out x5_1 p260 q260
         have hw260_2 := hx260_2
         have hw260_1 := hx260_1
         have hw260_0 := hx260_0
         obtain rfl : ad258 = ad260 := (by injection e260)
         replace hx260_0 := cl_ HB.out hx260_0
         replace hx260_1 := cl_ HB.out hx260_1
         replace hx260_2 := cl_ HB.out hx260_2
         have HR260_0 := Aside0.mk hi260_0
         have HC260_0 := Aside0.mk hl260_0
         clear hi260_0 hl260_0
         replace p260 := eq_true p260
         replace q260 := eq_true q260
         have ea_ := Option.some.inj (hx258_0.symm.trans hx260_0)
         injection ea_ with ea_ en_ ec_
         subst ea_
         subst ec_
         clear en_
         have p261 : 0 ≤ (x5_1 : Int) := of_decide_eq_true (by first | (with_reducible assumption) | assumption)
         have q261 : x5_1 < (l1_0.length : Int) := of_decide_eq_true (by first | (with_reducible assumption) | assumption)
         obtain ⟨ad261, A261_0, c261_0, e261, hx261_0, hx261_1, hx261_2, hl261_0, hi261_0⟩ := at_T40 HR1_0.out x5_1 p261 q261
         have hw261_2 := hx261_2
         have hw261_1 := hx261_1
         have hw261_0 := hx261_0
         obtain rfl : ad259 = ad261 := (by injection e261)
         replace hx261_0 := cl_ HB.out hx261_0
         replace hx261_1 := cl_ HB.out hx261_1
         replace hx261_2 := cl_ HB.out hx261_2
         have HR261_0 := Aside0.mk hi261_0
         have HC261_0 := Aside0.mk hl261_0
         clear hi261_0 hl261_0
         replace p261 := eq_true p261
         replace q261 := eq_true q261
         have ea_ := Option.some.inj (hx259_0.symm.trans hx261_0)
         injection ea_ with ea_ en_ ec_
         subst ea_
         subst ec_
         clear en_
         refine start_ (n := 44) (S := fun w' => w'.cell? ⟨gb256, 0, none⟩ = some (.slice (some ad258) l0_0.length c0_0) ∧ w'.cell? ⟨gb257, 0, none⟩ = some (.slice (some ad259) l1_0.length c1_0) ∧ w'.cell? (ad258.add ((x5_1).toNat * 3)) = some (.slice A258_0 ((rd_T40 l0_0 x5_1).f0).length c258_0) ∧ w'.cell? ⟨(ad258.add ((x5_1).toNat * 3)).block, (ad258.add ((x5_1).toNat * 3)).off + 1, none⟩ = some (.int .i64 ((rd_T40 l0_0 x5_1).f1)) ∧ w'.cell? ⟨(ad258.add ((x5_1).toNat * 3)).block, (ad258.add ((x5_1).toNat * 3)).off + 2, none⟩ = some (.int .i64 ((rd_T40 l0_0 x5_1).f2)) ∧ w'.cell? (ad259.add ((x5_1).toNat * 3)) = some (.slice A259_0 ((rd_T40 l1_0 x5_1).f0).length c259_0) ∧ w'.cell? ⟨(ad259.add ((x5_1).toNat * 3)).block, (ad259.add ((x5_1).toNat * 3)).off + 1, none⟩ = some (.int .i64 ((rd_T40 l1_0 x5_1).f1)) ∧ w'.cell? ⟨(ad259.add ((x5_1).toNat * 3)).block, (ad259.add ((x5_1).toNat * 3)).off + 2, none⟩ = some (.int .i64 ((rd_T40 l1_0 x5_1).f2)) ∧ w'.cell? (ad258.add ((x5_1).toNat * 3)) = some (.slice A258_0 ((rd_T40 l0_0 x5_1).f0).length c258_0) ∧ w'.cell? ⟨(ad258.add ((x5_1).toNat * 3)).block, (ad258.add ((x5_1).toNat * 3)).off + 1, none⟩ = some (.int .i64 ((rd_T40 l0_0 x5_1).f1)) ∧ w'.cell? ⟨(ad258.add ((x5_1).toNat * 3)).block, (ad258.add ((x5_1).toNat * 3)).off + 2, none⟩ = some (.int .i64 ((rd_T40 l0_0 x5_1).f2)) ∧ w'.cell? (ad259.add ((x5_1).toNat * 3)) = some (.slice A259_0 ((rd_T40 l1_0 x5_1).f0).length c259_0) ∧ w'.cell? ⟨(ad259.add ((x5_1).toNat * 3)).block, (ad259.add ((x5_1).toNat * 3)).off + 1, none⟩ = some (.int .i64 ((rd_T40 l1_0 x5_1).f1)) ∧ w'.cell? ⟨(ad259.add ((x5_1).toNat * 3)).block, (ad259.add ((x5_1).toNat * 3)).off + 2, none⟩ = some (.int .i64 ((rd_T40 l1_0 x5_1).f2))) (ds := []) (b_ 44 0) (by kernel_rfl) rfl rfl ⟨(blk_cell BK256.out 0).trans rfl, (blk_cell BK257.out 0).trans rfl, (cl_ HB.out hw258_0), (cl_ HB.out hw258_1), (cl_ HB.out hw258_2), (cl_ HB.out hw259_0), (cl_ HB.out hw259_1), (cl_ HB.out hw259_2), (cl_ HB.out hw260_0), (cl_ HB.out hw260_1), (cl_ HB.out hw260_2), (cl_ HB.out hw261_0), (cl_ HB.out hw261_1), (cl_ HB.out hw261_2)⟩ (fun hHeld => ?_); refine with_tabW millhandref23_Same.tab6 millhandref23_Same.bits6 (fun HT_ HW_ => ?_)
         generalize wr.drew = w24 at BK256 BK257 HB HR258_0 HR259_0 HR260_0 HR261_0 hx258_0 hx258_1 hx258_2 hx259_0 hx259_1 hx259_2 hx260_0 hx260_1 hx260_2 hx261_0 hx261_1 hx261_2 hHeld ⊢
         refine pA_ 0 20 ?_ (b_ 44 1) (any_of HT_.out (by kernel_rfl)) rfl rfl (fun _ _ _ h => h) (by rfl) ?_ ?_ ?_ ?_
         rotate_left
         ·
          intro w'
          go_simp
          with_reducible rfl
         rotate_left
         ·
          simp only [Act.put, sa_, s0_, s1_, i64_w, i32_w]
          rfl
         refine pA_ 2 22 ?_ (b_ 44 5) (any_of HT_.out (by kernel_rfl)) rfl rfl (fun _ _ _ h => h) (by rfl) ?_ ?_ ?_ ?_
         rotate_left
         ·
          intro w'
          go_simp
          with_reducible rfl
         rotate_left
         ·
          simp only [Act.put, sa_, s0_, s1_, i64_w, i32_w]
          rfl
         refine pA_ 6 26 ?_ (b_ 44 69) (any_of HT_.out (by kernel_rfl)) rfl rfl (fun _ _ _ h => h) (by rfl) ?_ ?_ ?_ ?_
         rotate_left
         ·
          intro w'
          go_simp
          with_reducible rfl
         rotate_left
         ·
          simp only [Act.put, sa_, s0_, s1_, i64_w, i32_w]
          rfl
         refine pA_ 8 28 ?_ (b_ 44 325) (any_of HT_.out (by kernel_rfl)) rfl rfl (fun _ _ _ h => h) (by rfl) ?_ ?_ ?_ ?_
         rotate_left
         ·
          intro w'
          go_simp
          with_reducible rfl
         rotate_left
         ·
          simp only [Act.put, sa_, s0_, s1_, i64_w, i32_w]
          rfl
         refine tA_ 1 21 ?_ (b_ 44 327) (take_ofW HT_.out HW_.out (by kernel_rfl)) rfl rfl (fun _ _ _ h => h) (by rfl) ?_ hHeld ?_ ?_ ?_
         rotate_left
         ·
          rintro w' ⟨s0, s1, s2, s3, s4, s5, s6, s7, s8, s9, s10, s11, s12, s13⟩
          go_simp
          with_reducible rfl
         rotate_left
         ·
          simp only [Act.put, sa_, s0_, s1_, i64_w, i32_w]
          rfl
         refine pA_ 3 23 ?_ (b_ 44 335) (any_of HT_.out (by kernel_rfl)) rfl rfl (fun _ _ _ h => h) (by rfl) ?_ ?_ ?_ ?_
         rotate_left
         ·
          intro w'
          go_simp
          with_reducible rfl
         rotate_left
         ·
          simp only [Act.put, sa_, s0_, s1_, i64_w, i32_w]
          rfl
         refine pA_ 4 24 ?_ (b_ 44 351) (any_of HT_.out (by kernel_rfl)) rfl rfl (fun _ _ _ h => h) (by rfl) ?_ ?_ ?_ ?_
         rotate_left
         ·
          intro w'
          go_simp
          with_reducible rfl
         rotate_left
         ·
          simp only [Act.put, sa_, s0_, s1_, i64_w, i32_w]
          rfl
         refine tA_ 5 25 ?_ (b_ 44 383) (take_ofW HT_.out HW_.out (by kernel_rfl)) rfl rfl (fun _ _ _ h => h) (by rfl) ?_ hHeld ?_ ?_ ?_
         rotate_left
         ·
          rintro w' ⟨s0, s1, s2, s3, s4, s5, s6, s7, s8, s9, s10, s11, s12, s13⟩
          go_simp
          with_reducible rfl
         rotate_left
         ·
          simp only [Act.put, sa_, s0_, s1_, i64_w, i32_w]
          rfl
         refine tA_ 7 27 ?_ (b_ 44 511) (take_ofW HT_.out HW_.out (by kernel_rfl)) rfl rfl (fun _ _ _ h => h) (by rfl) ?_ hHeld ?_ ?_ ?_
         rotate_left
         ·
          rintro w' ⟨s0, s1, s2, s3, s4, s5, s6, s7, s8, s9, s10, s11, s12, s13⟩
          go_simp
          with_reducible rfl
         rotate_left
         ·
          simp only [Act.put, sa_, s0_, s1_, i64_w, i32_w]
          rfl
         refine pA_ 9 29 ?_ (b_ 44 1023) (any_of HT_.out (by kernel_rfl)) rfl rfl (fun _ _ _ h => h) (by rfl) ?_ ?_ ?_ ?_
         rotate_left
         ·
          intro w'
          go_simp
          with_reducible rfl
         rotate_left
         ·
          simp only [Act.put, sa_, s0_, s1_, i64_w, i32_w]
          rfl
         refine pA_ 10 30 ?_ (b_ 44 2047) (any_of HT_.out (by kernel_rfl)) rfl rfl (fun _ _ _ h => h) (by rfl) ?_ ?_ ?_ ?_
         rotate_left
         ·
          intro w'
          go_simp
          with_reducible rfl
         rotate_left
         ·
          simp only [Act.put, sa_, s0_, s1_, i64_w, i32_w]
          rfl
         refine tA_ 11 31 ?_ (b_ 44 4095) (take_ofW HT_.out HW_.out (by kernel_rfl)) rfl rfl (fun _ _ _ h => h) (by rfl) ?_ hHeld ?_ ?_ ?_
         rotate_left
         ·
          rintro w' ⟨s0, s1, s2, s3, s4, s5, s6, s7, s8, s9, s10, s11, s12, s13⟩
          go_simp
          with_reducible rfl
         rotate_left
         ·
          simp only [Act.put, sa_, s0_, s1_, i64_w, i32_w]
          rfl
         refine pA_ 12 32 ?_ (b_ 44 8191) (any_of HT_.out (by kernel_rfl)) rfl rfl (fun _ _ _ h => h) (by rfl) ?_ ?_ ?_ ?_
         rotate_left
         ·
          intro w'
          go_simp
          with_reducible rfl
         rotate_left
         ·
          simp only [Act.put, sa_, s0_, s1_, i64_w, i32_w]
          rfl
         refine pA_ 13 33 ?_ (b_ 44 16383) (any_of HT_.out (by kernel_rfl)) rfl rfl (fun _ _ _ h => h) (by rfl) ?_ ?_ ?_ ?_
         rotate_left
         ·
          intro w'
          go_simp
          with_reducible rfl
         rotate_left
         ·
          simp only [Act.put, sa_, s0_, s1_, i64_w, i32_w]
          rfl
         refine pA_ 14 34 ?_ (b_ 44 32767) (any_of HT_.out (by kernel_rfl)) rfl rfl (fun _ _ _ h => h) (by rfl) ?_ ?_ ?_ ?_
         rotate_left
         ·
          intro w'
          go_simp
          with_reducible rfl
         rotate_left
         ·
          simp only [Act.put, sa_, s0_, s1_, i64_w, i32_w]
          rfl
         refine pA_ 16 36 ?_ (b_ 44 98303) (any_of HT_.out (by kernel_rfl)) rfl rfl (fun _ _ _ h => h) (by rfl) ?_ ?_ ?_ ?_
         rotate_left
         ·
          intro w'
          go_simp
          with_reducible rfl
         rotate_left
         ·
          simp only [Act.put, sa_, s0_, s1_, i64_w, i32_w]
          rfl
         refine pA_ 20 40 ?_ (b_ 44 1146879) (any_of HT_.out (by kernel_rfl)) rfl rfl (fun _ _ _ h => h) (by rfl) ?_ ?_ ?_ ?_
         rotate_left
         ·
          intro w'
          go_simp
          with_reducible rfl
         rotate_left
         ·
          simp only [Act.put, sa_, s0_, s1_, i64_w, i32_w]
          rfl
         refine pA_ 22 42 ?_ (b_ 44 5341183) (any_of HT_.out (by kernel_rfl)) rfl rfl (fun _ _ _ h => h) (by rfl) ?_ ?_ ?_ ?_
         rotate_left
         ·
          intro w'
          go_simp
          with_reducible rfl
         rotate_left
         ·
          simp only [Act.put, sa_, s0_, s1_, i64_w, i32_w]
          rfl
         refine tA_ 15 35 ?_ (b_ 44 5373951) (take_ofW HT_.out HW_.out (by kernel_rfl)) rfl rfl (fun _ _ _ h => h) (by rfl) ?_ hHeld ?_ ?_ ?_
         rotate_left
         ·
          rintro w' ⟨s0, s1, s2, s3, s4, s5, s6, s7, s8, s9, s10, s11, s12, s13⟩
          go_simp
          with_reducible rfl
         rotate_left
         ·
          simp only [Act.put, sa_, s0_, s1_, i64_w, i32_w]
          rfl
         refine pA_ 17 37 ?_ (b_ 44 5505023) (any_of HT_.out (by kernel_rfl)) rfl rfl (fun _ _ _ h => h) (by rfl) ?_ ?_ ?_ ?_
         rotate_left
         ·
          intro w'
          go_simp
          with_reducible rfl
         rotate_left
         ·
          simp only [Act.put, sa_, s0_, s1_, i64_w, i32_w]
          rfl
         refine pA_ 18 38 ?_ (b_ 44 5767167) (any_of HT_.out (by kernel_rfl)) rfl rfl (fun _ _ _ h => h) (by rfl) ?_ ?_ ?_ ?_
         rotate_left
         ·
          intro w'
          go_simp
          with_reducible rfl
         rotate_left
         ·
          simp only [Act.put, sa_, s0_, s1_, i64_w, i32_w]
          rfl
         refine tA_ 19 39 ?_ (b_ 44 6291455) (take_ofW HT_.out HW_.out (by kernel_rfl)) rfl rfl (fun _ _ _ h => h) (by rfl) ?_ hHeld ?_ ?_ ?_
         rotate_left
         ·
          rintro w' ⟨s0, s1, s2, s3, s4, s5, s6, s7, s8, s9, s10, s11, s12, s13⟩
          go_simp
          with_reducible rfl
         rotate_left
         ·
          simp only [Act.put, sa_, s0_, s1_, i64_w, i32_w]
          rfl
         refine tA_ 21 41 ?_ (b_ 44 8388607) (take_ofW HT_.out HW_.out (by kernel_rfl)) rfl rfl (fun _ _ _ h => h) (by rfl) ?_ hHeld ?_ ?_ ?_
         rotate_left
         ·
          rintro w' ⟨s0, s1, s2, s3, s4, s5, s6, s7, s8, s9, s10, s11, s12, s13⟩
          go_simp
          with_reducible rfl
         rotate_left
         ·
          simp only [Act.put, sa_, s0_, s1_, i64_w, i32_w]
          rfl
         refine pA_ 23 43 ?_ (b_ 44 16777215) (any_of HT_.out (by kernel_rfl)) rfl rfl (fun _ _ _ h => h) (by rfl) ?_ ?_ ?_ ?_
         rotate_left
         ·
          intro w'
          go_simp
          with_reducible rfl
         rotate_left
         ·
          simp only [Act.put, sa_, s0_, s1_, i64_w, i32_w]
          rfl
         refine pA_ 24 44 ?_ (b_ 44 33554431) (any_of HT_.out (by kernel_rfl)) rfl rfl (fun _ _ _ h => h) (by rfl) ?_ ?_ ?_ ?_
         rotate_left
         ·
          intro w'
          go_simp
          with_reducible rfl
         rotate_left
         ·
          simp only [Act.put, sa_, s0_, s1_, i64_w, i32_w]
          rfl
         refine tA_ 25 45 ?_ (b_ 44 67108863) (take_ofW HT_.out HW_.out (by kernel_rfl)) rfl rfl (fun _ _ _ h => h) (by rfl) ?_ hHeld ?_ ?_ ?_
         rotate_left
         ·
          rintro w' ⟨s0, s1, s2, s3, s4, s5, s6, s7, s8, s9, s10, s11, s12, s13⟩
          go_simp
          with_reducible rfl
         rotate_left
         ·
          simp only [Act.put, sa_, s0_, s1_, i64_w, i32_w]
          rfl
         refine pA_ 26 46 ?_ (b_ 44 134217727) (any_of HT_.out (by kernel_rfl)) rfl rfl (fun _ _ _ h => h) (by rfl) ?_ ?_ ?_ ?_
         rotate_left
         ·
          intro w'
          go_simp
          with_reducible rfl
         rotate_left
         ·
          simp only [Act.put, sa_, s0_, s1_, i64_w, i32_w]
          rfl
         refine pA_ 27 47 ?_ (b_ 44 268435455) (any_of HT_.out (by kernel_rfl)) rfl rfl (fun _ _ _ h => h) (by rfl) ?_ ?_ ?_ ?_
         rotate_left
         ·
          intro w'
          go_simp
          with_reducible rfl
         rotate_left
         ·
          simp only [Act.put, sa_, s0_, s1_, i64_w, i32_w]
          rfl
         refine pA_ 28 48 ?_ (b_ 44 536870911) (any_of HT_.out (by kernel_rfl)) rfl rfl (fun _ _ _ h => h) (by rfl) ?_ ?_ ?_ ?_
         rotate_left
         ·
          intro w'
          go_simp
          with_reducible rfl
         rotate_left
         ·
          simp only [Act.put, sa_, s0_, s1_, i64_w, i32_w]
          rfl
         refine pB_ 29 49 ?_ (b_ 44 1073741823) (any_of HT_.out (by kernel_rfl)) rfl rfl (fun _ _ _ h => h) (by rfl) ?_ ?_
         rotate_left
         ·
          simp only [Act.put, sa_, s0_, s1_, i64_w, i32_w]
          rfl
         refine pB_ 30 50 ?_ (b_ 44 2147483647) (any_of HT_.out (by kernel_rfl)) rfl rfl (fun _ _ _ h => h) (by rfl) ?_ ?_
         rotate_left
         ·
          simp only [Act.put, sa_, s0_, s1_, i64_w, i32_w]
          rfl
         refine pB_ 31 51 ?_ (b_ 44 4294967295) (any_of HT_.out (by kernel_rfl)) rfl rfl (fun _ _ _ h => h) (by rfl) ?_ ?_
         rotate_left
         ·
          simp only [Act.put, sa_, s0_, s1_, i64_w, i32_w]
          rfl
         refine pB_ 32 52 ?_ (b_ 44 8589934591) (any_of HT_.out (by kernel_rfl)) rfl rfl (fun _ _ _ h => h) (by rfl) ?_ ?_
         rotate_left
         ·
          simp only [Act.put, sa_, s0_, s1_, i64_w, i32_w]
          rfl
         refine pB_ 33 53 ?_ (b_ 44 17179869183) (any_of HT_.out (by kernel_rfl)) rfl rfl (fun _ _ _ h => h) (by rfl) ?_ ?_
         rotate_left
         ·
          simp only [Act.put, sa_, s0_, s1_, i64_w, i32_w]
          rfl
         refine pB_ 34 54 ?_ (b_ 44 34359738367) (any_of HT_.out (by kernel_rfl)) rfl rfl (fun _ _ _ h => h) (by rfl) ?_ ?_
         rotate_left
         ·
          simp only [Act.put, sa_, s0_, s1_, i64_w, i32_w]
          rfl
         refine pB_ 35 55 ?_ (b_ 44 68719476735) (any_of HT_.out (by kernel_rfl)) rfl rfl (fun _ _ _ h => h) (by rfl) ?_ ?_
         rotate_left
         ·
          simp only [Act.put, sa_, s0_, s1_, i64_w, i32_w]
          rfl
         refine pB_ 36 56 ?_ (b_ 44 137438953471) (any_of HT_.out (by kernel_rfl)) rfl rfl (fun _ _ _ h => h) (by rfl) ?_ ?_
         rotate_left
         ·
          simp only [Act.put, sa_, s0_, s1_, i64_w, i32_w]
          rfl
         refine pB_ 37 57 ?_ (b_ 44 274877906943) (any_of HT_.out (by kernel_rfl)) rfl rfl (fun _ _ _ h => h) (by rfl) ?_ ?_
         rotate_left
         ·
          simp only [Act.put, sa_, s0_, s1_, i64_w, i32_w]
          rfl
         refine pB_ 38 58 ?_ (b_ 44 549755813887) (any_of HT_.out (by kernel_rfl)) rfl rfl (fun _ _ _ h => h) (by rfl) ?_ ?_
         rotate_left
         ·
          simp only [Act.put, sa_, s0_, s1_, i64_w, i32_w]
          rfl
         refine pB_ 39 59 ?_ (b_ 44 1099511627775) (any_of HT_.out (by kernel_rfl)) rfl rfl (fun _ _ _ h => h) (by rfl) ?_ ?_
         rotate_left
         ·
          simp only [Act.put, sa_, s0_, s1_, i64_w, i32_w]
          rfl
         refine pB_ 40 60 ?_ (b_ 44 2199023255551) (any_of HT_.out (by kernel_rfl)) rfl rfl (fun _ _ _ h => h) (by rfl) ?_ ?_
         rotate_left
         ·
          simp only [Act.put, sa_, s0_, s1_, i64_w, i32_w]
          rfl
         refine pB_ 41 61 ?_ (b_ 44 4398046511103) (any_of HT_.out (by kernel_rfl)) rfl rfl (fun _ _ _ h => h) (by rfl) ?_ ?_
         rotate_left
         ·
          simp only [Act.put, sa_, s0_, s1_, i64_w, i32_w]
          rfl
         refine pB_ 42 62 ?_ (b_ 44 8796093022207) (any_of HT_.out (by kernel_rfl)) rfl rfl (fun _ _ _ h => h) (by rfl) ?_ ?_
         rotate_left
         ·
          simp only [Act.put, sa_, s0_, s1_, i64_w, i32_w]
          rfl
         refine pA_ 43 63 ?_ (b_ 44 17592186044415) (any_of HT_.out (by kernel_rfl)) rfl rfl (fun _ _ _ h => h) (by rfl) ?_ ?_ ?_ ?_
         rotate_left
         ·
          intro w'
          go_simp
          with_reducible rfl
         rotate_left
         ·
          simp only [Act.put, sa_, s0_, s1_, i64_w, i32_w]
          rfl
         refine done_ (done_of HT_.out (by kernel_rfl)) ?_
         try go_wp2
         go_ret
         exact ⟨by first | rfl | (simp [errW_none, errW_some] <;> rfl) | (simp [*, errW_none, errW_some] <;> rfl) | exact ret_ie _ | (simp [*, errW_none, errW_some, bne]; done), by repeat (first | (with_reducible first | exact HB.out | apply below_alloc | apply pw_below_drewN | apply below_drew1 | refine below_set ?_ GE256.out | refine below_set ?_ GE257.out) | exact HB.out)⟩
       ·
        rw [if_neg c12] at H
        have c12b0 : (((rd_T40 l0_0 x5_1).f1) == ((rd_T40 l1_0 x5_1).f1)) = false := beq_eq_false_iff_ne.mpr c12
        have c12b1 : (((rd_T40 l0_0 x5_1).f1) != ((rd_T40 l1_0 x5_1).f1)) = true := bne_iff_ne.mpr c12
        obtain rfl := Option.some.inj H
        have hnb25 := NB256_257.out
        have hnc25 := NB257_256.out
        have hcz26_0 : wr.cell? ⟨gb256, 0, none⟩ = some (.slice A0_0 l0_0.length c0_0) := (blk_cell BK256.out 0).trans rfl
        have hfz26_0 := blk_frozen BK256.out 0
        try go_wp2
        obtain ⟨BK256, BK257, HB⟩ := And.intro (Aside0.mk (blk_drew BK256.out)) (And.intro (Aside0.mk (blk_drew BK257.out)) (Aside0.mk (below_drew1 HB.out)))
        have p258 : 0 ≤ (x5_1 : Int) := of_decide_eq_true (by first | (with_reducible assumption) | assumption)
        have q258 : x5_1 < (l0_0.length : Int) := of_decide_eq_true (by first | (with_reducible assumption) | assumption)
        obtain ⟨ad258, A258_0, c258_0, e258, hx258_0, hx258_1, hx258_2, hl258_0, hi258_0⟩ := at_T40 HR0_0.out x5_1 p258 q258
        have hw258_2 := hx258_2
        have hw258_1 := hx258_1
        have hw258_0 := hx258_0
        cases e258
        replace hx258_0 := cl_ HB.out hx258_0
        replace hx258_1 := cl_ HB.out hx258_1
        replace hx258_2 := cl_ HB.out hx258_2
        have HR258_0 := Aside0.mk hi258_0
        have HC258_0 := Aside0.mk hl258_0
        clear hi258_0 hl258_0
        replace p258 := eq_true p258
        replace q258 := eq_true q258
        have p259 : 0 ≤ (x5_1 : Int) := of_decide_eq_true (by first | (with_reducible assumption) | assumption)
        have q259 : x5_1 < (l1_0.length : Int) := of_decide_eq_true (by first | (with_reducible assumption) | assumption)
        obtain ⟨ad259, A259_0, c259_0, e259, hx259_0, hx259_1, hx259_2, hl259_0, hi259_0⟩ := at_T40 HR1_0.out x5_1 p259 q259
        have hw259_2 := hx259_2
        have hw259_1 := hx259_1
        have hw259_0 := hx259_0
        cases e259
        replace hx259_0 := cl_ HB.out hx259_0
        replace hx259_1 := cl_ HB.out hx259_1
        replace hx259_2 := cl_ HB.out hx259_2
        have HR259_0 := Aside0.mk hi259_0
        have HC259_0 := Aside0.mk hl259_0
        clear hi259_0 hl259_0
        replace p259 := eq_true p259
        replace q259 := eq_true q259
        refine start_ (n := 44) (S := fun w' => w'.cell? ⟨gb256, 0, none⟩ = some (.slice (some ad258) l0_0.length c0_0) ∧ w'.cell? ⟨gb257, 0, none⟩ = some (.slice (some ad259) l1_0.length c1_0) ∧ w'.cell? (ad258.add ((x5_1).toNat * 3)) = some (.slice A258_0 ((rd_T40 l0_0 x5_1).f0).length c258_0) ∧ w'.cell? ⟨(ad258.add ((x5_1).toNat * 3)).block, (ad258.add ((x5_1).toNat * 3)).off + 1, none⟩ = some (.int .i64 ((rd_T40 l0_0 x5_1).f1)) ∧ w'.cell? ⟨(ad258.add ((x5_1).toNat * 3)).block, (ad258.add ((x5_1).toNat * 3)).off + 2, none⟩ = some (.int .i64 ((rd_T40 l0_0 x5_1).f2)) ∧ w'.cell? (ad259.add ((x5_1).toNat * 3)) = some (.slice A259_0 ((rd_T40 l1_0 x5_1).f0).length c259_0) ∧ w'.cell? ⟨(ad259.add ((x5_1).toNat * 3)).block, (ad259.add ((x5_1).toNat * 3)).off + 1, none⟩ = some (.int .i64 ((rd_T40 l1_0 x5_1).f1)) ∧ w'.cell? ⟨(ad259.add ((x5_1).toNat * 3)).block, (ad259.add ((x5_1).toNat * 3)).off + 2, none⟩ = some (.int .i64 ((rd_T40 l1_0 x5_1).f2))) (ds := []) (b_ 44 0) (by kernel_rfl) rfl rfl ⟨(blk_cell BK256.out 0).trans rfl, (blk_cell BK257.out 0).trans rfl, (cl_ HB.out hw258_0), (cl_ HB.out hw258_1), (cl_ HB.out hw258_2), (cl_ HB.out hw259_0), (cl_ HB.out hw259_1), (cl_ HB.out hw259_2)⟩ (fun hHeld => ?_); refine with_tabW millhandref23_Same.tab6 millhandref23_Same.bits6 (fun HT_ HW_ => ?_)
        generalize wr.drew = w27 at BK256 BK257 HB HR258_0 HR259_0 hx258_0 hx258_1 hx258_2 hx259_0 hx259_1 hx259_2 hHeld ⊢
        refine pA_ 0 20 ?_ (b_ 44 1) (any_of HT_.out (by kernel_rfl)) rfl rfl (fun _ _ _ h => h) (by rfl) ?_ ?_ ?_ ?_
        rotate_left
        ·
         intro w'
         go_simp
         with_reducible rfl
        rotate_left
        ·
         simp only [Act.put, sa_, s0_, s1_, i64_w, i32_w]
         rfl
        refine pA_ 2 22 ?_ (b_ 44 5) (any_of HT_.out (by kernel_rfl)) rfl rfl (fun _ _ _ h => h) (by rfl) ?_ ?_ ?_ ?_
        rotate_left
        ·
         intro w'
         go_simp
         with_reducible rfl
        rotate_left
        ·
         simp only [Act.put, sa_, s0_, s1_, i64_w, i32_w]
         rfl
        refine pA_ 6 26 ?_ (b_ 44 69) (any_of HT_.out (by kernel_rfl)) rfl rfl (fun _ _ _ h => h) (by rfl) ?_ ?_ ?_ ?_
        rotate_left
        ·
         intro w'
         go_simp
         with_reducible rfl
        rotate_left
        ·
         simp only [Act.put, sa_, s0_, s1_, i64_w, i32_w]
         rfl
        refine pA_ 8 28 ?_ (b_ 44 325) (any_of HT_.out (by kernel_rfl)) rfl rfl (fun _ _ _ h => h) (by rfl) ?_ ?_ ?_ ?_
        rotate_left
        ·
         intro w'
         go_simp
         with_reducible rfl
        rotate_left
        ·
         simp only [Act.put, sa_, s0_, s1_, i64_w, i32_w]
         rfl
        refine tA_ 1 21 ?_ (b_ 44 327) (take_ofW HT_.out HW_.out (by kernel_rfl)) rfl rfl (fun _ _ _ h => h) (by rfl) ?_ hHeld ?_ ?_ ?_
        rotate_left
        ·
         rintro w' ⟨s0, s1, s2, s3, s4, s5, s6, s7⟩
         go_simp
         with_reducible rfl
        rotate_left
        ·
         simp only [Act.put, sa_, s0_, s1_, i64_w, i32_w]
         rfl
        refine pA_ 3 23 ?_ (b_ 44 335) (any_of HT_.out (by kernel_rfl)) rfl rfl (fun _ _ _ h => h) (by rfl) ?_ ?_ ?_ ?_
        rotate_left
        ·
         intro w'
         go_simp
         with_reducible rfl
        rotate_left
        ·
         simp only [Act.put, sa_, s0_, s1_, i64_w, i32_w]
         rfl
        refine pA_ 4 24 ?_ (b_ 44 351) (any_of HT_.out (by kernel_rfl)) rfl rfl (fun _ _ _ h => h) (by rfl) ?_ ?_ ?_ ?_
        rotate_left
        ·
         intro w'
         go_simp
         with_reducible rfl
        rotate_left
        ·
         simp only [Act.put, sa_, s0_, s1_, i64_w, i32_w]
         rfl
        refine tA_ 5 25 ?_ (b_ 44 383) (take_ofW HT_.out HW_.out (by kernel_rfl)) rfl rfl (fun _ _ _ h => h) (by rfl) ?_ hHeld ?_ ?_ ?_
        rotate_left
        ·
         rintro w' ⟨s0, s1, s2, s3, s4, s5, s6, s7⟩
         go_simp
         with_reducible rfl
        rotate_left
        ·
         simp only [Act.put, sa_, s0_, s1_, i64_w, i32_w]
         rfl
        refine tA_ 7 27 ?_ (b_ 44 511) (take_ofW HT_.out HW_.out (by kernel_rfl)) rfl rfl (fun _ _ _ h => h) (by rfl) ?_ hHeld ?_ ?_ ?_
        rotate_left
        ·
         rintro w' ⟨s0, s1, s2, s3, s4, s5, s6, s7⟩
         go_simp
         with_reducible rfl
        rotate_left
        ·
         simp only [Act.put, sa_, s0_, s1_, i64_w, i32_w]
         rfl
        refine pA_ 9 29 ?_ (b_ 44 1023) (any_of HT_.out (by kernel_rfl)) rfl rfl (fun _ _ _ h => h) (by rfl) ?_ ?_ ?_ ?_
        rotate_left
        ·
         intro w'
         go_simp
         with_reducible rfl
        rotate_left
        ·
         simp only [Act.put, sa_, s0_, s1_, i64_w, i32_w]
         rfl
        refine pA_ 10 30 ?_ (b_ 44 2047) (any_of HT_.out (by kernel_rfl)) rfl rfl (fun _ _ _ h => h) (by rfl) ?_ ?_ ?_ ?_
        rotate_left
        ·
         intro w'
         go_simp
         with_reducible rfl
        rotate_left
        ·
         simp only [Act.put, sa_, s0_, s1_, i64_w, i32_w]
         rfl
        refine tA_ 11 31 ?_ (b_ 44 4095) (take_ofW HT_.out HW_.out (by kernel_rfl)) rfl rfl (fun _ _ _ h => h) (by rfl) ?_ hHeld ?_ ?_ ?_
        rotate_left
        ·
         rintro w' ⟨s0, s1, s2, s3, s4, s5, s6, s7⟩
         go_simp
         with_reducible rfl
        rotate_left
        ·
         simp only [Act.put, sa_, s0_, s1_, i64_w, i32_w]
         rfl
        refine pA_ 12 32 ?_ (b_ 44 8191) (any_of HT_.out (by kernel_rfl)) rfl rfl (fun _ _ _ h => h) (by rfl) ?_ ?_ ?_ ?_
        rotate_left
        ·
         intro w'
         go_simp
         with_reducible rfl
        rotate_left
        ·
         simp only [Act.put, sa_, s0_, s1_, i64_w, i32_w]
         rfl
        refine pA_ 13 33 ?_ (b_ 44 16383) (any_of HT_.out (by kernel_rfl)) rfl rfl (fun _ _ _ h => h) (by rfl) ?_ ?_ ?_ ?_
        rotate_left
        ·
         intro w'
         go_simp
         with_reducible rfl
        rotate_left
        ·
         simp only [Act.put, sa_, s0_, s1_, i64_w, i32_w]
         rfl
        refine pB_ 14 34 ?_ (b_ 44 32767) (any_of HT_.out (by kernel_rfl)) rfl rfl (fun _ _ _ h => h) (by rfl) ?_ ?_
        rotate_left
        ·
         simp only [Act.put, sa_, s0_, s1_, i64_w, i32_w]
         rfl
        refine pB_ 15 35 ?_ (b_ 44 65535) (any_of HT_.out (by kernel_rfl)) rfl rfl (fun _ _ _ h => h) (by rfl) ?_ ?_
        rotate_left
        ·
         simp only [Act.put, sa_, s0_, s1_, i64_w, i32_w]
         rfl
        refine pB_ 16 36 ?_ (b_ 44 131071) (any_of HT_.out (by kernel_rfl)) rfl rfl (fun _ _ _ h => h) (by rfl) ?_ ?_
        rotate_left
        ·
         simp only [Act.put, sa_, s0_, s1_, i64_w, i32_w]
         rfl
        refine pB_ 17 37 ?_ (b_ 44 262143) (any_of HT_.out (by kernel_rfl)) rfl rfl (fun _ _ _ h => h) (by rfl) ?_ ?_
        rotate_left
        ·
         simp only [Act.put, sa_, s0_, s1_, i64_w, i32_w]
         rfl
        refine pB_ 18 38 ?_ (b_ 44 524287) (any_of HT_.out (by kernel_rfl)) rfl rfl (fun _ _ _ h => h) (by rfl) ?_ ?_
        rotate_left
        ·
         simp only [Act.put, sa_, s0_, s1_, i64_w, i32_w]
         rfl
        refine pB_ 19 39 ?_ (b_ 44 1048575) (any_of HT_.out (by kernel_rfl)) rfl rfl (fun _ _ _ h => h) (by rfl) ?_ ?_
        rotate_left
        ·
         simp only [Act.put, sa_, s0_, s1_, i64_w, i32_w]
         rfl
        refine pB_ 20 40 ?_ (b_ 44 2097151) (any_of HT_.out (by kernel_rfl)) rfl rfl (fun _ _ _ h => h) (by rfl) ?_ ?_
        rotate_left
        ·
         simp only [Act.put, sa_, s0_, s1_, i64_w, i32_w]
         rfl
        refine pB_ 21 41 ?_ (b_ 44 4194303) (any_of HT_.out (by kernel_rfl)) rfl rfl (fun _ _ _ h => h) (by rfl) ?_ ?_
        rotate_left
        ·
         simp only [Act.put, sa_, s0_, s1_, i64_w, i32_w]
         rfl
        refine pB_ 22 42 ?_ (b_ 44 8388607) (any_of HT_.out (by kernel_rfl)) rfl rfl (fun _ _ _ h => h) (by rfl) ?_ ?_
        rotate_left
        ·
         simp only [Act.put, sa_, s0_, s1_, i64_w, i32_w]
         rfl
        refine pB_ 23 43 ?_ (b_ 44 16777215) (any_of HT_.out (by kernel_rfl)) rfl rfl (fun _ _ _ h => h) (by rfl) ?_ ?_
        rotate_left
        ·
         simp only [Act.put, sa_, s0_, s1_, i64_w, i32_w]
         rfl
        refine pB_ 24 44 ?_ (b_ 44 33554431) (any_of HT_.out (by kernel_rfl)) rfl rfl (fun _ _ _ h => h) (by rfl) ?_ ?_
        rotate_left
        ·
         simp only [Act.put, sa_, s0_, s1_, i64_w, i32_w]
         rfl
        refine pB_ 25 45 ?_ (b_ 44 67108863) (any_of HT_.out (by kernel_rfl)) rfl rfl (fun _ _ _ h => h) (by rfl) ?_ ?_
        rotate_left
        ·
         simp only [Act.put, sa_, s0_, s1_, i64_w, i32_w]
         rfl
        refine pB_ 26 46 ?_ (b_ 44 134217727) (any_of HT_.out (by kernel_rfl)) rfl rfl (fun _ _ _ h => h) (by rfl) ?_ ?_
        rotate_left
        ·
         simp only [Act.put, sa_, s0_, s1_, i64_w, i32_w]
         rfl
        refine pA_ 27 47 ?_ (b_ 44 268435455) (any_of HT_.out (by kernel_rfl)) rfl rfl (fun _ _ _ h => h) (by rfl) ?_ ?_ ?_ ?_
        rotate_left
        ·
         intro w'
         go_simp
         with_reducible rfl
        rotate_left
        ·
         simp only [Act.put, sa_, s0_, s1_, i64_w, i32_w]
         rfl
        refine pA_ 28 48 ?_ (b_ 44 536870911) (any_of HT_.out (by kernel_rfl)) rfl rfl (fun _ _ _ h => h) (by rfl) ?_ ?_ ?_ ?_
        rotate_left
        ·
         intro w'
         go_simp
         with_reducible rfl
        rotate_left
        ·
         simp only [Act.put, sa_, s0_, s1_, i64_w, i32_w]
         rfl
        refine pB_ 29 49 ?_ (b_ 44 1073741823) (any_of HT_.out (by kernel_rfl)) rfl rfl (fun _ _ _ h => h) (by rfl) ?_ ?_
        rotate_left
        ·
         simp only [Act.put, sa_, s0_, s1_, i64_w, i32_w]
         rfl
        refine pB_ 30 50 ?_ (b_ 44 2147483647) (any_of HT_.out (by kernel_rfl)) rfl rfl (fun _ _ _ h => h) (by rfl) ?_ ?_
        rotate_left
        ·
         simp only [Act.put, sa_, s0_, s1_, i64_w, i32_w]
         rfl
        refine pB_ 31 51 ?_ (b_ 44 4294967295) (any_of HT_.out (by kernel_rfl)) rfl rfl (fun _ _ _ h => h) (by rfl) ?_ ?_
        rotate_left
        ·
         simp only [Act.put, sa_, s0_, s1_, i64_w, i32_w]
         rfl
        refine pB_ 32 52 ?_ (b_ 44 8589934591) (any_of HT_.out (by kernel_rfl)) rfl rfl (fun _ _ _ h => h) (by rfl) ?_ ?_
        rotate_left
        ·
         simp only [Act.put, sa_, s0_, s1_, i64_w, i32_w]
         rfl
        refine pB_ 33 53 ?_ (b_ 44 17179869183) (any_of HT_.out (by kernel_rfl)) rfl rfl (fun _ _ _ h => h) (by rfl) ?_ ?_
        rotate_left
        ·
         simp only [Act.put, sa_, s0_, s1_, i64_w, i32_w]
         rfl
        refine pB_ 34 54 ?_ (b_ 44 34359738367) (any_of HT_.out (by kernel_rfl)) rfl rfl (fun _ _ _ h => h) (by rfl) ?_ ?_
        rotate_left
        ·
         simp only [Act.put, sa_, s0_, s1_, i64_w, i32_w]
         rfl
        refine pB_ 35 55 ?_ (b_ 44 68719476735) (any_of HT_.out (by kernel_rfl)) rfl rfl (fun _ _ _ h => h) (by rfl) ?_ ?_
        rotate_left
        ·
         simp only [Act.put, sa_, s0_, s1_, i64_w, i32_w]
         rfl
        refine pB_ 36 56 ?_ (b_ 44 137438953471) (any_of HT_.out (by kernel_rfl)) rfl rfl (fun _ _ _ h => h) (by rfl) ?_ ?_
        rotate_left
        ·
         simp only [Act.put, sa_, s0_, s1_, i64_w, i32_w]
         rfl
        refine pB_ 37 57 ?_ (b_ 44 274877906943) (any_of HT_.out (by kernel_rfl)) rfl rfl (fun _ _ _ h => h) (by rfl) ?_ ?_
        rotate_left
        ·
         simp only [Act.put, sa_, s0_, s1_, i64_w, i32_w]
         rfl
        refine pB_ 38 58 ?_ (b_ 44 549755813887) (any_of HT_.out (by kernel_rfl)) rfl rfl (fun _ _ _ h => h) (by rfl) ?_ ?_
        rotate_left
        ·
         simp only [Act.put, sa_, s0_, s1_, i64_w, i32_w]
         rfl
        refine pB_ 39 59 ?_ (b_ 44 1099511627775) (any_of HT_.out (by kernel_rfl)) rfl rfl (fun _ _ _ h => h) (by rfl) ?_ ?_
        rotate_left
        ·
         simp only [Act.put, sa_, s0_, s1_, i64_w, i32_w]
         rfl
        refine pB_ 40 60 ?_ (b_ 44 2199023255551) (any_of HT_.out (by kernel_rfl)) rfl rfl (fun _ _ _ h => h) (by rfl) ?_ ?_
        rotate_left
        ·
         simp only [Act.put, sa_, s0_, s1_, i64_w, i32_w]
         rfl
        refine pB_ 41 61 ?_ (b_ 44 4398046511103) (any_of HT_.out (by kernel_rfl)) rfl rfl (fun _ _ _ h => h) (by rfl) ?_ ?_
        rotate_left
        ·
         simp only [Act.put, sa_, s0_, s1_, i64_w, i32_w]
         rfl
        refine pB_ 42 62 ?_ (b_ 44 8796093022207) (any_of HT_.out (by kernel_rfl)) rfl rfl (fun _ _ _ h => h) (by rfl) ?_ ?_
        rotate_left
        ·
         simp only [Act.put, sa_, s0_, s1_, i64_w, i32_w]
         rfl
        refine pA_ 43 63 ?_ (b_ 44 17592186044415) (any_of HT_.out (by kernel_rfl)) rfl rfl (fun _ _ _ h => h) (by rfl) ?_ ?_ ?_ ?_
        rotate_left
        ·
         intro w'
         go_simp
         with_reducible rfl
        rotate_left
        ·
         simp only [Act.put, sa_, s0_, s1_, i64_w, i32_w]
         rfl
        refine done_ (done_of HT_.out (by kernel_rfl)) ?_
        try go_wp2
        go_ret
        exact ⟨by first | rfl | (simp [errW_none, errW_some] <;> rfl) | (simp [*, errW_none, errW_some] <;> rfl) | exact ret_ie _ | (simp [*, errW_none, errW_some, bne]; done), by repeat (first | (with_reducible first | exact HB.out | apply below_alloc | apply pw_below_drewN | apply below_drew1 | refine below_set ?_ GE256.out | refine below_set ?_ GE257.out) | exact HB.out)⟩
      ·
       rw [if_neg c11] at H
       exact absurd H (by simp)
     ·
      rw [if_neg c10] at H
      exact absurd H (by simp)
    ·
     rw [if_neg c9] at H
     have c9b0 : decide (x5_1 < (l0_0.length : Int)) = false := decide_eq_false c9
     clear c9
     obtain rfl := Option.some.inj H
     have hnb28 := NB256_257.out
     have hnc28 := NB257_256.out
     have hcz29_0 : wr.cell? ⟨gb256, 0, none⟩ = some (.slice A0_0 l0_0.length c0_0) := (blk_cell BK256.out 0).trans rfl
     have hfz29_0 := blk_frozen BK256.out 0
     go_wp2
     go_ret
     exact ⟨by first | rfl | (simp [errW_none, errW_some] <;> rfl) | (simp [*, errW_none, errW_some] <;> rfl) | exact ret_ie _ | (simp [*, errW_none, errW_some, bne]; done), by repeat (first | (with_reducible first | exact HB.out | apply below_alloc | apply pw_below_drewN | apply below_drew1 | refine below_set ?_ GE256.out | refine below_set ?_ GE257.out) | exact HB.out)⟩
 ·
  rw [if_neg c3] at H
  have c3b0 : ((l0_0.length : Int) == (l1_0.length : Int)) = false := beq_eq_false_iff_ne.mpr c3
  have c3b1 : ((l0_0.length : Int) != (l1_0.length : Int)) = true := bne_iff_ne.mpr c3
  have c3b2 : (l0_0.length == l1_0.length) = false := by first | simpa using c3 | (simp at c3 ⊢; omega)
  obtain rfl := Option.some.inj H
  go_enter Try.func11, Try.ntmps11
  go_wp2_with (first | ((with_reducible refine gate_dst (N := 2) rfl ?_); refine box_event ?hg (N := 2) ?hd (cs := #[.slice A0_0 l0_0.length c0_0]) (t := 25) ?hr ?_; (case hd => rfl); (case hg => rfl); (case hr => first | (go_simp; done) | (go_simp; rfl)); intro gb256 hg w30 hbox hb; have n0_ := Aside0.mk (below_step (by repeat (first | (with_reducible first | exact HB.out | apply below_alloc | apply pw_below_drewN | apply below_drew1) | exact HB.out)) hb); have n1_ := Aside0.mk (hbox); have n2_ := Aside0.mk ((by rw [hg]; exact (below_size (by repeat (first | (with_reducible first | exact HB.out | apply below_alloc | apply pw_below_drewN | apply below_drew1) | exact HB.out))) : w.heap.size ≤ gb256)); have n3_ := Aside0.mk ((by rw [hg]; exact (below_size (by repeat (first | (with_reducible first | exact HB.out | apply below_alloc | apply pw_below_drewN | apply below_drew1) | exact HB.out))) : w.heap.size ≤ gb256)); clear HB; have HB := n0_; have BK256 := n1_; have GW256 := n2_; have GE256 := n3_; clear n0_ n1_ n2_ n3_; clear hb hbox hg) | ((with_reducible refine gate_dst (N := 3) rfl ?_); refine box_event ?hg (N := 3) ?hd (cs := #[.slice A1_0 l1_0.length c1_0]) (t := 25) ?hr ?_; (case hd => rfl); (case hg => rfl); (case hr => first | (go_simp; done) | (go_simp; rfl)); intro gb257 hg w31 hbox hb; have n0_ := Aside0.mk (blk_below (g := gb256) (o := .cells #[.slice A0_0 l0_0.length c0_0] 25 (0, 0)) (by (with_reducible repeat (first | refine blk_drewN ?_ _ | refine blk_drew ?_ | refine blk_alloc ?_ _)); exact BK256.out) hb); have n1_ := Aside0.mk (below_step (by repeat (first | (with_reducible first | exact HB.out | apply below_alloc | apply pw_below_drewN | apply below_drew1 | refine below_set ?_ GE256.out) | exact HB.out)) hb); have n2_ := Aside0.mk (hbox); have n3_ := Aside0.mk ((by rw [hg]; exact (below_size (by repeat (first | (with_reducible first | exact HB.out | apply below_alloc | apply pw_below_drewN | apply below_drew1 | refine below_set ?_ GE256.out) | exact HB.out))) : w.heap.size ≤ gb257)); have n4_ := Aside0.mk ((by rw [hg]; exact (below_size (by repeat (first | (with_reducible first | exact HB.out | apply below_alloc | apply pw_below_drewN | apply below_drew1 | refine below_set ?_ GE256.out) | exact HB.out))) : w.heap.size ≤ gb257)); have n5_ := Aside0.mk ((by rw [hg]; exact Nat.ne_of_lt (blk_lt (g := gb256) (o := .cells #[.slice A0_0 l0_0.length c0_0] 25 (0, 0)) (by (with_reducible repeat (first | refine blk_drewN ?_ _ | refine blk_drew ?_ | refine blk_alloc ?_ _)); exact BK256.out)) : gb256 ≠ gb257)); have n6_ := Aside0.mk ((by rw [hg]; exact Nat.ne_of_gt (blk_lt (g := gb256) (o := .cells #[.slice A0_0 l0_0.length c0_0] 25 (0, 0)) (by (with_reducible repeat (first | refine blk_drewN ?_ _ | refine blk_drew ?_ | refine blk_alloc ?_ _)); exact BK256.out)) : gb257 ≠ gb256)); clear BK256; clear HB; have BK256 := n0_; have HB := n1_; have BK257 := n2_; have GW257 := n3_; have GE257 := n4_; have NB256_257 := n5_; have NB257_256 := n6_; clear n0_ n1_ n2_ n3_ n4_ n5_ n6_; clear hb hbox hg; have hnb32 := NB256_257.out; have hnc32 := NB257_256.out; have hcz33_0 : w31.cell? ⟨gb256, 0, none⟩ = some (.slice A0_0 l0_0.length c0_0) := (blk_cell BK256.out 0).trans rfl; have hfz33_0 := blk_frozen BK256.out 0; have hcz34_0 : w31.cell? ⟨gb257, 0, none⟩ = some (.slice A1_0 l1_0.length c1_0) := (blk_cell BK257.out 0).trans rfl; have hfz34_0 := blk_frozen BK257.out 0))
  go_ret
  exact ⟨by first | rfl | (simp [errW_none, errW_some] <;> rfl) | (simp [*, errW_none, errW_some] <;> rfl) | exact ret_ie _ | (simp [*, errW_none, errW_some, bne]; done), by repeat (first | (with_reducible first | exact HB.out | apply below_alloc | apply pw_below_drewN | apply below_drew1 | refine below_set ?_ GE256.out | refine below_set ?_ GE257.out) | exact HB.out)⟩

end Go.Proofs.Ytoplhlacdjlidaa.R

/- Contracts of Go functions and what they come to, over the translation of this seat: made by a program of this session (print2.py). -/
import Derived.Test.YtdlghckcbbjipaaOrd
import Derived.Test.YtdlghckcbbjipaaRx0
import Derived.Test.YtdlghckcbbjipaaRx11
import Derived.Test.YtdlghckcbbjipaaRx12
namespace Go.Proofs.Ytdlghckcbbjipaa.R
open Go.RowKit Go.Proofs.Ytdlghckcbbjipaa.Co Go.Proofs.Ytdlghckcbbjipaa.Ret Go.Proofs.Ytdlghckcbbjipaa.Plain Go.Proofs.YtdlghckcbbjipaaW.PrintWords Go.Proofs.YtdlghckcbbjipaaW.PrintLast Go.Proofs.YtdlghckcbbjipaaW.PrintMore
attribute [local go_sem] max2_int min2_int max_two min_two max_three min_three max_four min_four   -- for this text's walks alone
set_option linter.unusedVariables false
set_option linter.unusedSimpArgs false

/-! ### millhandref16_May: function 49 -/
mutual
def millhandref16_May.j0 : Nat → Bool → List (List (S32)) → Int → Int → ByteArray → Option (Bool)
 | 0, _, _, _, _, _ => none
 | k + 1, x37, x276000, x276001, x276002, x276003 => if x37 = true then (some false) else ((millhandref16_Tables.f k x276000 x276001 x276002 x276003).bind fun t277 => (millhandref16_May.l0 k t277 0 x276000 x276001 x276002 x276003))
def millhandref16_May.l0 : Nat → List (S32) → Int → List (List (S32)) → Int → Int → ByteArray → Option (Bool)
 | 0, _, _, _, _, _, _ => none
 | k + 1, x3, x4, x276000, x276001, x276002, x276003 => if x4 < (x3.length : Int) then (if 0 ≤ x4 then ((millhandref16_Table.f ((rd_T32 x3 x4).f0) ((rd_T32 x3 x4).f1) ((rd_T32 x3 x4).f2) ((rd_T32 x3 x4).f3) ((rd_T32 x3 x4).f4)).bind fun t281 => (if t281 = true then (millhandref16_May.j2 k x3 x4 (((rd_T32 x3 x4).f0).toList == x276003.toList) x276000 x276001 x276002 x276003) else (millhandref16_May.j2 k x3 x4 true x276000 x276001 x276002 x276003))) else (none)) else (millhandref16_May.l2 k 1 x276000 x276001 x276002 x276003)
def millhandref16_May.j2 : Nat → List (S32) → Int → Bool → List (List (S32)) → Int → Int → ByteArray → Option (Bool)
 | 0, _, _, _, _, _, _, _ => none
 | k + 1, x3, x4, x61, x276000, x276001, x276002, x276003 => if x61 = true then (some false) else (millhandref16_May.l1 k x3 x4 0 x276000 x276001 x276002 x276003)
def millhandref16_May.l1 : Nat → List (S32) → Int → Int → List (List (S32)) → Int → Int → ByteArray → Option (Bool)
 | 0, _, _, _, _, _, _, _ => none
 | k + 1, x3, x4, x5, x276000, x276001, x276002, x276003 => if x5 < x4 then (if 0 ≤ x5 then (if x5 < (x3.length : Int) then (if 0 ≤ x4 then (if x4 < (x3.length : Int) then (if ((rd_T32 x3 x5).f0).toList = ((rd_T32 x3 x4).f0).toList then (some false) else (millhandref16_May.l1 k x3 x4 (wrap64 (x5 + 1)) x276000 x276001 x276002 x276003)) else (none)) else (none)) else (none)) else (none)) else (millhandref16_May.l0 k x3 (wrap64 (x4 + 1)) x276000 x276001 x276002 x276003)
def millhandref16_May.l2 : Nat → Int → List (List (S32)) → Int → Int → ByteArray → Option (Bool)
 | 0, _, _, _, _, _ => none
 | k + 1, x6, x276000, x276001, x276002, x276003 => if x6 < 4 then (millhandref16_May.l3 k x6 1 x276000 x276001 x276002 x276003) else (some true)
def millhandref16_May.l3 : Nat → Int → Int → List (List (S32)) → Int → Int → ByteArray → Option (Bool)
 | 0, _, _, _, _, _, _ => none
 | k + 1, x6, x7, x276000, x276001, x276002, x276003 => if 0 ≤ x6 then (if x6 < (x276000.length : Int) then (if x7 < ((rd_L3 x276000 x6).length : Int) then (if 0 ≤ x7 then (if 0 ≤ (wrap64 (x7 - 1)) then (if (wrap64 (x7 - 1)) < ((rd_L3 x276000 x6).length : Int) then (if ((Op.bytesLess (((rd_T32 (rd_L3 x276000 x6) (wrap64 (x7 - 1))).f4).toList) (((rd_T32 (rd_L3 x276000 x6) x7).f3).toList)) = true) then (millhandref16_May.l3 k x6 (wrap64 (x7 + 1)) x276000 x276001 x276002 x276003) else (some false)) else (none)) else (none)) else (none)) else (millhandref16_May.l2 k (wrap64 (x6 + 1)) x276000 x276001 x276002 x276003)) else (none)) else (none)
end
def millhandref16_May.f (k : Nat) (l0_0 : List (List (S32))) (a0_1 : Int) (a0_2 : Int) (a0_3 : ByteArray) : Option (Bool) := if (l0_0.length : Int) = 4 then ((millhandref16_Text.f a0_3 16).bind fun t276 => (if t276 = true then (if a0_1 < 1 then (millhandref16_May.j0 k true l0_0 a0_1 a0_2 a0_3) else (if a0_1 > 1099511627776 then (millhandref16_May.j0 k true l0_0 a0_1 a0_2 a0_3) else (if a0_2 < 0 then (millhandref16_May.j0 k true l0_0 a0_1 a0_2 a0_3) else (millhandref16_May.j0 k (decide (a0_2 > 1099511627776)) l0_0 a0_1 a0_2 a0_3)))) else (millhandref16_May.j0 k true l0_0 a0_1 a0_2 a0_3))) else (millhandref16_May.j0 k true l0_0 a0_1 a0_2 a0_3)
def millhandref16_May.T7 : Bool × List (List Nat × List Nat) := (true, [([], []), ([], []), ([0, 1], [0, 1]), ([2], [2]), ([3], [3]), ([4], [4]), ([5, 4], [5]), ([6], [6]), ([6], [6]), ([7, 8, 6], [6, 7, 8]), ([9, 6], [6, 9]), ([10, 6], [6, 10]), ([6], [6]), ([12, 6], [6, 12]), ([11, 13, 6], [6, 11, 13]), ([6, 14], [6, 14])])
def millhandref16_May.B7 : List Nat := [0, 0, 3, 7, 15, 31, 63, 127, 127, 511, 1023, 2047, 127, 4223, 16383, 32767]
theorem millhandref16_May.tab7 : rtab .any (opsOf Try.f49 7) = millhandref16_May.T7 := by kernel_rfl
theorem millhandref16_May.bits7 : waitsOk millhandref16_May.T7.2 millhandref16_May.B7 = true := by kernel_rfl
def millhandref16_May.T12 : Bool × List (List Nat × List Nat) := (true, [([], []), ([], []), ([0, 1], [0, 1]), ([2], [2]), ([3], [3]), ([], []), ([], []), ([5, 6], [5, 6]), ([7], [7]), ([8], [8]), ([4, 9], [4, 9])])
def millhandref16_May.B12 : List Nat := [0, 0, 3, 7, 15, 0, 0, 96, 224, 480, 1023]
theorem millhandref16_May.tab12 : rtab .any (opsOf Try.f49 12) = millhandref16_May.T12 := by kernel_rfl
theorem millhandref16_May.bits12 : waitsOk millhandref16_May.T12.2 millhandref16_May.B12 = true := by kernel_rfl
def millhandref16_May.T20 : Bool × List (List Nat × List Nat) := (true, [([], []), ([0], [0]), ([], []), ([1, 2], [1, 2]), ([3], [3]), ([], []), ([4, 5], [4, 5]), ([6], [6]), ([7], [7]), ([], []), ([9], [9]), ([], []), ([10, 11], [10, 11]), ([12], [12]), ([], []), ([14], [14]), ([13, 15], [13, 15]), ([16], [16]), ([17], [17]), ([8, 18], [8, 18])])
def millhandref16_May.B20 : List Nat := [0, 1, 0, 7, 15, 0, 63, 127, 255, 0, 512, 0, 3584, 7680, 0, 16384, 65024, 130560, 261632, 524287]
theorem millhandref16_May.tab20 : rtab .any (opsOf Try.f49 20) = millhandref16_May.T20 := by kernel_rfl
theorem millhandref16_May.bits20 : waitsOk millhandref16_May.T20.2 millhandref16_May.B20 = true := by kernel_rfl
set_option maxHeartbeats 8000000 in
set_option maxRecDepth 100000 in
theorem millhandref16_May.calls (k : Nat) (A0_0 : Option Addr) (c0_0 : Nat) (l0_0 : List (List (S32))) (a0_1 : Int) (a0_2 : Int) (a0_3 : ByteArray) (r : Bool) (w : World) (hr0_0 : Kd.C (Kd.slice 32 k32) w A0_0 l0_0.length l0_0) (hc0_0 : l0_0.length ≤ c0_0) (h : millhandref16_May.f k l0_0 a0_1 a0_2 a0_3 = some r) :
  Calls Try.prog 49 #[.agg #[.slice A0_0 l0_0.length c0_0, .int .i64 a0_1, .int .i64 a0_2, .string a0_3]] w fun e w' => e = .returned (.bool r) ∧ Below w.heap.size w w' := by
 have gq1_ := @Ord.gtr_
 have gq2_ := @Ord.leq_
 have gq3_ := @Ord.geq_
 have hu24 := Try.underlying24
 have hu32 := Try.underlying32
 have HR0_0 := Aside0.mk hr0_0
 have HC0_0 := Aside0.mk hc0_0
 clear hr0_0 hc0_0
 have HB := Aside0.mk (Below.refl w.heap.size w)
 have H : (if (l0_0.length : Int) = 4 then ((millhandref16_Text.f a0_3 16).bind fun t276 => (if t276 = true then (if a0_1 < 1 then (millhandref16_May.j0 k true l0_0 a0_1 a0_2 a0_3) else (if a0_1 > 1099511627776 then (millhandref16_May.j0 k true l0_0 a0_1 a0_2 a0_3) else (if a0_2 < 0 then (millhandref16_May.j0 k true l0_0 a0_1 a0_2 a0_3) else (millhandref16_May.j0 k (decide (a0_2 > 1099511627776)) l0_0 a0_1 a0_2 a0_3)))) else (millhandref16_May.j0 k true l0_0 a0_1 a0_2 a0_3))) else (millhandref16_May.j0 k true l0_0 a0_1 a0_2 a0_3)) = some r := h
 clear h
 have HC2 := Aside0.mk H
 clear H
 go_enter Try.func49, Try.ntmps49
 go_upto_region 1 with (first | ((with_reducible refine gate_dst (N := 1) rfl ?_); refine box_event ?hg (N := 1) ?hd (cs := #[.slice A0_0 l0_0.length c0_0, .int .i64 a0_1, .int .i64 a0_2, .string a0_3]) (t := 24) ?hr ?_; (case hd => rfl); (case hg => rfl); (case hr => first | (go_simp; done) | (go_simp; rfl)); intro gb275 hg w3 hbox hb; have n0_ := Aside0.mk (below_step (by repeat (first | (with_reducible first | exact HB.out | apply below_alloc | apply pw_below_drewN | apply below_drew1) | exact HB.out)) hb); have n1_ := Aside0.mk (hbox); have n2_ := Aside0.mk ((by rw [hg]; exact (below_size (by repeat (first | (with_reducible first | exact HB.out | apply below_alloc | apply pw_below_drewN | apply below_drew1) | exact HB.out))) : w.heap.size ≤ gb275)); have n3_ := Aside0.mk ((by rw [hg]; exact (below_size (by repeat (first | (with_reducible first | exact HB.out | apply below_alloc | apply pw_below_drewN | apply below_drew1) | exact HB.out))) : w.heap.size ≤ gb275)); clear HB; have HB := n0_; have BK275 := n1_; have GW275 := n2_; have GE275 := n3_; clear n0_ n1_ n2_ n3_; clear hb hbox hg))
 (try simp only [Act.put, sa_, s0_, s1_])
 go_cut [37] (fun v37 wc => ∃ (kq : Nat) (x37_1 : Bool), v37 = .bool x37_1 ∧ Aside0 (millhandref16_May.j0 kq x37_1 l0_0 a0_1 a0_2 a0_3 = some r) ∧ Aside0 (kq ≤ k) ∧ Aside0 (wc.heap[gb275]? = some (.cells #[(.slice A0_0 l0_0.length c0_0), .int .i64 a0_1, .int .i64 a0_2, .string a0_3] 24 (0, 0))) ∧ Aside0 (Below w.heap.size w wc))
 case first =>
  have H := HC2.out
  clear HC2
  by_cases c4 : (l0_0.length : Int) = 4
  ·
   rw [if_pos c4] at H
   have c4b0 : ((l0_0.length : Int) == 4) = true := beq_iff_eq.mpr c4
   have c4b1 : ((l0_0.length : Int) != 4) = false := bne_eq_false_iff_eq.mpr c4
   clear c4
   (first | rw [c4b0] | (simp only [i64_w, i32_w]; rw [c4b0]) | skip)
   replace H := Option.bind_eq_some_iff.mp H
   obtain ⟨t276, A50, H⟩ := H
   replace H : (if t276 = true then (if a0_1 < 1 then (millhandref16_May.j0 k true l0_0 a0_1 a0_2 a0_3) else (if a0_1 > 1099511627776 then (millhandref16_May.j0 k true l0_0 a0_1 a0_2 a0_3) else (if a0_2 < 0 then (millhandref16_May.j0 k true l0_0 a0_1 a0_2 a0_3) else (millhandref16_May.j0 k (decide (a0_2 > 1099511627776)) l0_0 a0_1 a0_2 a0_3)))) else (millhandref16_May.j0 k true l0_0 a0_1 a0_2 a0_3)) = some r := H
   have A5 := Aside0.mk A50
   clear A50
   by_cases c6 : t276 = true
   ·
    subst c6
    have H1 : (if a0_1 < 1 then (millhandref16_May.j0 k true l0_0 a0_1 a0_2 a0_3) else (if a0_1 > 1099511627776 then (millhandref16_May.j0 k true l0_0 a0_1 a0_2 a0_3) else (if a0_2 < 0 then (millhandref16_May.j0 k true l0_0 a0_1 a0_2 a0_3) else (millhandref16_May.j0 k (decide (a0_2 > 1099511627776)) l0_0 a0_1 a0_2 a0_3)))) = some r := by rw [if_pos rfl] at H; exact H
    clear H
    have H := H1
    clear H1
    by_cases c7 : a0_1 < 1
    ·
     rw [if_pos c7] at H
     have c7b0 : decide (a0_1 < 1) = true := decide_eq_true c7
     clear c7
     have H' := Aside0.mk H
     clear H
     have hcz8_0 : w3.cell? ⟨gb275, 0, none⟩ = some (.slice A0_0 l0_0.length c0_0) := (blk_cell BK275.out 0).trans rfl
     have hcz8_1 : w3.cell? ⟨gb275, 1, none⟩ = some (.int .i64 a0_1) := (blk_cell BK275.out 1).trans rfl
     have hcz8_2 : w3.cell? ⟨gb275, 2, none⟩ = some (.int .i64 a0_2) := (blk_cell BK275.out 2).trans rfl
     have hcz8_3 : w3.cell? ⟨gb275, 3, none⟩ = some (.string a0_3) := (blk_cell BK275.out 3).trans rfl
     have hfz8_0 := blk_frozen BK275.out 0
     have hfz8_1 := blk_frozen BK275.out 1
     have hfz8_2 := blk_frozen BK275.out 2
     have hfz8_3 := blk_frozen BK275.out 3
     go_wp2_with (first | (go_at_call 43; (with_reducible refine (millhandref16_Text.calls a0_3 16 true _ A5.out).mono ?_); rintro e w' ⟨rfl, ⟨nd, rfl⟩⟩))
     go_meet
     case rel => exact ⟨_, (true), (by first | rfl | (simp; done) | (simp [*]; done)), H', ⟨by first | omega | exact Nat.le_refl _⟩, ⟨by (with_reducible repeat (first | refine blk_drewN ?_ _ | refine blk_drew ?_ | refine blk_alloc ?_ _)); exact BK275.out⟩, ⟨by repeat (first | (with_reducible first | exact HB.out | apply below_alloc | apply pw_below_drewN | apply below_drew1 | refine below_set ?_ GE275.out) | exact HB.out)⟩⟩
    ·
     rw [if_neg c7] at H
     have c7b0 : decide (a0_1 < 1) = false := decide_eq_false c7
     clear c7
     by_cases c9 : a0_1 > 1099511627776
     ·
      rw [if_pos c9] at H
      have c9b0 : decide (1099511627776 < a0_1) = true := decide_eq_true c9
      clear c9
      have H' := Aside0.mk H
      clear H
      have hcz10_0 : w3.cell? ⟨gb275, 0, none⟩ = some (.slice A0_0 l0_0.length c0_0) := (blk_cell BK275.out 0).trans rfl
      have hcz10_1 : w3.cell? ⟨gb275, 1, none⟩ = some (.int .i64 a0_1) := (blk_cell BK275.out 1).trans rfl
      have hcz10_2 : w3.cell? ⟨gb275, 2, none⟩ = some (.int .i64 a0_2) := (blk_cell BK275.out 2).trans rfl
      have hcz10_3 : w3.cell? ⟨gb275, 3, none⟩ = some (.string a0_3) := (blk_cell BK275.out 3).trans rfl
      have hfz10_0 := blk_frozen BK275.out 0
      have hfz10_1 := blk_frozen BK275.out 1
      have hfz10_2 := blk_frozen BK275.out 2
      have hfz10_3 := blk_frozen BK275.out 3
      go_wp2_with (first | (go_at_call 43; (with_reducible refine (millhandref16_Text.calls a0_3 16 true _ A5.out).mono ?_); rintro e w' ⟨rfl, ⟨nd, rfl⟩⟩))
      go_meet
      case rel => exact ⟨_, (true), (by first | rfl | (simp; done) | (simp [*]; done)), H', ⟨by first | omega | exact Nat.le_refl _⟩, ⟨by (with_reducible repeat (first | refine blk_drewN ?_ _ | refine blk_drew ?_ | refine blk_alloc ?_ _)); exact BK275.out⟩, ⟨by repeat (first | (with_reducible first | exact HB.out | apply below_alloc | apply pw_below_drewN | apply below_drew1 | refine below_set ?_ GE275.out) | exact HB.out)⟩⟩
     ·
      rw [if_neg c9] at H
      have c9b0 : decide (1099511627776 < a0_1) = false := decide_eq_false c9
      clear c9
      by_cases c11 : a0_2 < 0
      ·
       rw [if_pos c11] at H
       have c11b0 : decide (a0_2 < 0) = true := decide_eq_true c11
       clear c11
       have H' := Aside0.mk H
       clear H
       have hcz12_0 : w3.cell? ⟨gb275, 0, none⟩ = some (.slice A0_0 l0_0.length c0_0) := (blk_cell BK275.out 0).trans rfl
       have hcz12_1 : w3.cell? ⟨gb275, 1, none⟩ = some (.int .i64 a0_1) := (blk_cell BK275.out 1).trans rfl
       have hcz12_2 : w3.cell? ⟨gb275, 2, none⟩ = some (.int .i64 a0_2) := (blk_cell BK275.out 2).trans rfl
       have hcz12_3 : w3.cell? ⟨gb275, 3, none⟩ = some (.string a0_3) := (blk_cell BK275.out 3).trans rfl
       have hfz12_0 := blk_frozen BK275.out 0
       have hfz12_1 := blk_frozen BK275.out 1
       have hfz12_2 := blk_frozen BK275.out 2
       have hfz12_3 := blk_frozen BK275.out 3
       go_wp2_with (first | (go_at_call 43; (with_reducible refine (millhandref16_Text.calls a0_3 16 true _ A5.out).mono ?_); rintro e w' ⟨rfl, ⟨nd, rfl⟩⟩))
       go_meet
       case rel => exact ⟨_, (true), (by first | rfl | (simp; done) | (simp [*]; done)), H', ⟨by first | omega | exact Nat.le_refl _⟩, ⟨by (with_reducible repeat (first | refine blk_drewN ?_ _ | refine blk_drew ?_ | refine blk_alloc ?_ _)); exact BK275.out⟩, ⟨by repeat (first | (with_reducible first | exact HB.out | apply below_alloc | apply pw_below_drewN | apply below_drew1 | refine below_set ?_ GE275.out) | exact HB.out)⟩⟩
      ·
       rw [if_neg c11] at H
       have c11b0 : decide (a0_2 < 0) = false := decide_eq_false c11
       clear c11
       have H' := Aside0.mk H
       clear H
       have hcz13_0 : w3.cell? ⟨gb275, 0, none⟩ = some (.slice A0_0 l0_0.length c0_0) := (blk_cell BK275.out 0).trans rfl
       have hcz13_1 : w3.cell? ⟨gb275, 1, none⟩ = some (.int .i64 a0_1) := (blk_cell BK275.out 1).trans rfl
       have hcz13_2 : w3.cell? ⟨gb275, 2, none⟩ = some (.int .i64 a0_2) := (blk_cell BK275.out 2).trans rfl
       have hcz13_3 : w3.cell? ⟨gb275, 3, none⟩ = some (.string a0_3) := (blk_cell BK275.out 3).trans rfl
       have hfz13_0 := blk_frozen BK275.out 0
       have hfz13_1 := blk_frozen BK275.out 1
       have hfz13_2 := blk_frozen BK275.out 2
       have hfz13_3 := blk_frozen BK275.out 3
       go_wp2_with (first | (go_at_call 43; (with_reducible refine (millhandref16_Text.calls a0_3 16 true _ A5.out).mono ?_); rintro e w' ⟨rfl, ⟨nd, rfl⟩⟩))
       go_meet
       case rel => exact ⟨_, (decide (a0_2 > 1099511627776)), (by first | rfl | (simp; done) | (simp [*]; done)), H', ⟨by first | omega | exact Nat.le_refl _⟩, ⟨by (with_reducible repeat (first | refine blk_drewN ?_ _ | refine blk_drew ?_ | refine blk_alloc ?_ _)); exact BK275.out⟩, ⟨by repeat (first | (with_reducible first | exact HB.out | apply below_alloc | apply pw_below_drewN | apply below_drew1 | refine below_set ?_ GE275.out) | exact HB.out)⟩⟩
   ·
    replace c6 := Bool.eq_false_iff.mpr c6
    subst c6
    have H1 : (millhandref16_May.j0 k true l0_0 a0_1 a0_2 a0_3) = some r := by rw [if_neg (show ¬ (false = true) by decide)] at H; exact H
    clear H
    have H := H1
    clear H1
    have H' := Aside0.mk H
    clear H
    have hcz14_0 : w3.cell? ⟨gb275, 0, none⟩ = some (.slice A0_0 l0_0.length c0_0) := (blk_cell BK275.out 0).trans rfl
    have hcz14_1 : w3.cell? ⟨gb275, 1, none⟩ = some (.int .i64 a0_1) := (blk_cell BK275.out 1).trans rfl
    have hcz14_2 : w3.cell? ⟨gb275, 2, none⟩ = some (.int .i64 a0_2) := (blk_cell BK275.out 2).trans rfl
    have hcz14_3 : w3.cell? ⟨gb275, 3, none⟩ = some (.string a0_3) := (blk_cell BK275.out 3).trans rfl
    have hfz14_0 := blk_frozen BK275.out 0
    have hfz14_1 := blk_frozen BK275.out 1
    have hfz14_2 := blk_frozen BK275.out 2
    have hfz14_3 := blk_frozen BK275.out 3
    go_wp2_with (first | (go_at_call 43; (with_reducible refine (millhandref16_Text.calls a0_3 16 false _ A5.out).mono ?_); rintro e w' ⟨rfl, ⟨nd, rfl⟩⟩))
    go_meet
    case rel => exact ⟨_, (true), (by first | rfl | (simp; done) | (simp [*]; done)), H', ⟨by first | omega | exact Nat.le_refl _⟩, ⟨by (with_reducible repeat (first | refine blk_drewN ?_ _ | refine blk_drew ?_ | refine blk_alloc ?_ _)); exact BK275.out⟩, ⟨by repeat (first | (with_reducible first | exact HB.out | apply below_alloc | apply pw_below_drewN | apply below_drew1 | refine below_set ?_ GE275.out) | exact HB.out)⟩⟩
  ·
   rw [if_neg c4] at H
   have c4b0 : ((l0_0.length : Int) == 4) = false := beq_eq_false_iff_ne.mpr c4
   have c4b1 : ((l0_0.length : Int) != 4) = true := bne_iff_ne.mpr c4
   (first | rw [c4b0] | (simp only [i64_w, i32_w]; rw [c4b0]) | skip)
   have H' := Aside0.mk H
   clear H
   have hcz15_0 : w3.cell? ⟨gb275, 0, none⟩ = some (.slice A0_0 l0_0.length c0_0) := (blk_cell BK275.out 0).trans rfl
   have hcz15_1 : w3.cell? ⟨gb275, 1, none⟩ = some (.int .i64 a0_1) := (blk_cell BK275.out 1).trans rfl
   have hcz15_2 : w3.cell? ⟨gb275, 2, none⟩ = some (.int .i64 a0_2) := (blk_cell BK275.out 2).trans rfl
   have hcz15_3 : w3.cell? ⟨gb275, 3, none⟩ = some (.string a0_3) := (blk_cell BK275.out 3).trans rfl
   have hfz15_0 := blk_frozen BK275.out 0
   have hfz15_1 := blk_frozen BK275.out 1
   have hfz15_2 := blk_frozen BK275.out 2
   have hfz15_3 := blk_frozen BK275.out 3
   go_wp2
   go_meet
   case rel => exact ⟨_, (true), (by first | rfl | (simp; done) | (simp [*]; done)), H', ⟨by first | omega | exact Nat.le_refl _⟩, ⟨by (with_reducible repeat (first | refine blk_drewN ?_ _ | refine blk_drew ?_ | refine blk_alloc ?_ _)); exact BK275.out⟩, ⟨by repeat (first | (with_reducible first | exact HB.out | apply below_alloc | apply pw_below_drewN | apply below_drew1 | refine below_set ?_ GE275.out) | exact HB.out)⟩⟩
 case rest =>
  clear HC2
  try clear c1
  try clear p2
  try clear c4
  try clear c4b0
  try clear c4b1
  try clear c6
  try clear c7
  try clear c7b0
  try clear c9
  try clear c9b0
  try clear c11
  try clear c11b0
  try clear hcz10_0
  try clear hcz10_1
  try clear hcz10_2
  try clear hcz10_3
  try clear hcz12_0
  try clear hcz12_1
  try clear hcz12_2
  try clear hcz12_3
  try clear hcz13_0
  try clear hcz13_1
  try clear hcz13_2
  try clear hcz13_3
  try clear hcz14_0
  try clear hcz14_1
  try clear hcz14_2
  try clear hcz14_3
  try clear hcz15_0
  try clear hcz15_1
  try clear hcz15_2
  try clear hcz15_3
  try clear hcz8_0
  try clear hcz8_1
  try clear hcz8_2
  try clear hcz8_3
  try clear hfz10_0
  try clear hfz10_1
  try clear hfz10_2
  try clear hfz10_3
  try clear hfz12_0
  try clear hfz12_1
  try clear hfz12_2
  try clear hfz12_3
  try clear hfz13_0
  try clear hfz13_1
  try clear hfz13_2
  try clear hfz13_3
  try clear hfz14_0
  try clear hfz14_1
  try clear hfz14_2
  try clear hfz14_3
  try clear hfz15_0
  try clear hfz15_1
  try clear hfz15_2
  try clear hfz15_3
  try clear hfz8_0
  try clear hfz8_1
  try clear hfz8_2
  try clear hfz8_3
  obtain ⟨kq, x37_1, rfl, HA, HJ1, BK275, HB⟩ := hcut
  cases kq with
  | zero => exact absurd HA.out (by simp [millhandref16_May.j0])
  | succ kj1 =>
   have H := HA.out
   clear HA
   simp only [millhandref16_May.j0] at H
   by_cases c16 : x37_1 = true
   ·
    subst c16
    have H1 : (some false) = some r := by rw [if_pos rfl] at H; exact H
    clear H
    have H := H1
    clear H1
    obtain rfl := Option.some.inj H
    go_wp2
    go_ret
    exact ⟨by first | rfl | (simp [errW_none, errW_some] <;> rfl) | (simp [*, errW_none, errW_some] <;> rfl) | exact ret_ie _ | (simp [*, errW_none, errW_some, bne]; done), by repeat (first | (with_reducible first | exact HB.out | apply below_alloc | apply pw_below_drewN | apply below_drew1 | refine below_set ?_ GE275.out) | exact HB.out)⟩
   ·
    replace c16 := Bool.eq_false_iff.mpr c16
    subst c16
    have H1 : ((millhandref16_Tables.f kj1 l0_0 a0_1 a0_2 a0_3).bind fun t277 => (millhandref16_May.l0 kj1 t277 0 l0_0 a0_1 a0_2 a0_3)) = some r := by rw [if_neg (show ¬ (false = true) by decide)] at H; exact H
    clear H
    have H := H1
    clear H1
    replace H := Option.bind_eq_some_iff.mp H
    obtain ⟨t277, A170, H⟩ := H
    replace H : (millhandref16_May.l0 kj1 t277 0 l0_0 a0_1 a0_2 a0_3) = some r := H
    have A17 := Aside0.mk A170
    clear A170
    have H' := Aside0.mk H
    clear H
    have hcz18_0 : wc.cell? ⟨gb275, 0, none⟩ = some (.slice A0_0 l0_0.length c0_0) := (blk_cell BK275.out 0).trans rfl
    have hcz18_1 : wc.cell? ⟨gb275, 1, none⟩ = some (.int .i64 a0_1) := (blk_cell BK275.out 1).trans rfl
    have hcz18_2 : wc.cell? ⟨gb275, 2, none⟩ = some (.int .i64 a0_2) := (blk_cell BK275.out 2).trans rfl
    have hcz18_3 : wc.cell? ⟨gb275, 3, none⟩ = some (.string a0_3) := (blk_cell BK275.out 3).trans rfl
    have hfz18_0 := blk_frozen BK275.out 0
    have hfz18_1 := blk_frozen BK275.out 1
    have hfz18_2 := blk_frozen BK275.out 2
    have hfz18_3 := blk_frozen BK275.out 3
    go_wp2_with (first | ((with_reducible refine gate_callee (f := 41) rfl ?_); refine goesL_ (some 39) rfl rfl Try.func41 (by kernel_rfl) rfl #[.agg #[.slice A0_0 l0_0.length c0_0, .int .i64 a0_1, .int .i64 a0_2, .string a0_3]] rfl (by (try simp only [List.map_toArray, List.map_cons, List.map_nil]); first | done | rfl | (simp only [List.length_drop, List.length_take]; rfl)) ?_; (with_reducible refine (millhandref16_Tables.calls kj1 _ _ l0_0 a0_1 a0_2 a0_3 t277 _ ?side1 ?side2 A17.out).mono ?_); (case side1 => repeat (first | exact (Kd.C_below HR0_0.out HB.out) | (with_reducible refine Kd.C_alloc ?_ _) | (with_reducible refine Kd.C_drewN ?_ _) | (with_reducible refine Kd.C_drew ?_))); (case side2 => exact HC0_0.out); rintro e w19 ⟨v278, rfl, ho0, hb⟩; refine ⟨_, rfl, ?_⟩; have n0_ := Aside0.mk (Kd.R_lower ho0 (below_size (by repeat (first | (with_reducible first | exact HB.out | apply below_alloc | apply pw_below_drewN | apply below_drew1 | refine below_set ?_ GE275.out) | exact HB.out)))); have n1_ := Aside0.mk (blk_below (g := gb275) (o := .cells #[.slice A0_0 l0_0.length c0_0, .int .i64 a0_1, .int .i64 a0_2, .string a0_3] 24 (0, 0)) (by (with_reducible repeat (first | refine blk_drewN ?_ _ | refine blk_drew ?_ | refine blk_alloc ?_ _)); exact BK275.out) hb); have n2_ := Aside0.mk (below_step (by repeat (first | (with_reducible first | exact HB.out | apply below_alloc | apply pw_below_drewN | apply below_drew1 | refine below_set ?_ GE275.out) | exact HB.out)) hb); clear BK275; clear HB; have HO279 := n0_; have BK275 := n1_; have HB := n2_; clear n0_ n1_ n2_; (try clear hb); (try clear hb2); (try clear hk); (try clear hi); (try clear ho0)))
    go_loopg [4] kj1 (fun kq v4 w' => ∃ (x4_2 : Int), v4 = .int .i64 x4_2 ∧ Aside0 (millhandref16_May.l0 kq t277 x4_2 l0_0 a0_1 a0_2 a0_3 = some r) ∧ Aside0 (kq ≤ kj1) ∧ Aside0 (Kd.R k32 32 w' w.heap.size (fun _ => True) v278 t277) ∧ Aside0 (w'.heap[gb275]? = some (.cells #[(.slice A0_0 l0_0.length c0_0), .int .i64 a0_1, .int .i64 a0_2, .string a0_3] 24 (0, 0))) ∧ Aside0 (Below w.heap.size w w'))
    case atStart => exact ⟨(0), (by first | rfl | (simp; done) | (simp [*]; done)), H', ⟨Nat.le_refl _⟩, ⟨by (with_reducible repeat (first | apply Kd.R_alloc | apply Kd.R_drewN | apply Kd.R_drew)); exact HO279.out⟩, ⟨by (with_reducible repeat (first | refine blk_drewN ?_ _ | refine blk_drew ?_ | refine blk_alloc ?_ _)); exact BK275.out⟩, ⟨by repeat (first | (with_reducible first | exact HB.out | apply below_alloc | apply pw_below_drewN | apply below_drew1 | refine below_set ?_ GE275.out) | exact HB.out)⟩⟩
    case round =>
     clear H'
     try clear c1
     try clear p2
     try clear c4
     try clear c4b0
     try clear c4b1
     try clear c6
     try clear c7
     try clear c7b0
     try clear c9
     try clear c9b0
     try clear c11
     try clear c11b0
     try clear c16
     try clear hcz10_0
     try clear hcz10_1
     try clear hcz10_2
     try clear hcz10_3
     try clear hcz12_0
     try clear hcz12_1
     try clear hcz12_2
     try clear hcz12_3
     try clear hcz13_0
     try clear hcz13_1
     try clear hcz13_2
     try clear hcz13_3
     try clear hcz14_0
     try clear hcz14_1
     try clear hcz14_2
     try clear hcz14_3
     try clear hcz15_0
     try clear hcz15_1
     try clear hcz15_2
     try clear hcz15_3
     try clear hcz18_0
     try clear hcz18_1
     try clear hcz18_2
     try clear hcz18_3
     try clear hcz8_0
     try clear hcz8_1
     try clear hcz8_2
     try clear hcz8_3
     try clear hfz10_0
     try clear hfz10_1
     try clear hfz10_2
     try clear hfz10_3
     try clear hfz12_0
     try clear hfz12_1
     try clear hfz12_2
     try clear hfz12_3
     try clear hfz13_0
     try clear hfz13_1
     try clear hfz13_2
     try clear hfz13_3
     try clear hfz14_0
     try clear hfz14_1
     try clear hfz14_2
     try clear hfz14_3
     try clear hfz15_0
     try clear hfz15_1
     try clear hfz15_2
     try clear hfz15_3
     try clear hfz18_0
     try clear hfz18_1
     try clear hfz18_2
     try clear hfz18_3
     try clear hfz8_0
     try clear hfz8_1
     try clear hfz8_2
     try clear hfz8_3
     try clear p2
     obtain ⟨x4_2, rfl, HA, HK2, HO_3, BK275, HB⟩ := hrel
     cases gk with
     | zero => exact absurd HA.out (by simp [millhandref16_May.l0])
     | succ k2 =>
      have H := HA.out
      clear HA
      simp only [millhandref16_May.l0] at H
      by_cases c20 : x4_2 < (t277.length : Int)
      ·
       rw [if_pos c20] at H
       have c20b0 : decide (x4_2 < (t277.length : Int)) = true := decide_eq_true c20
       clear c20
       have HC21 := Aside0.mk H
       clear H
       obtain ⟨Ao22, co22, eo22⟩ := Kd.R_slice HO_3.out
       subst eo22
       go_upto_region 7 with (fail)
       go_cut [61] (fun v61 wc => ∃ (kq : Nat) (x61_20 : Bool), v61 = .bool x61_20 ∧ Aside0 (millhandref16_May.j2 kq t277 x4_2 x61_20 l0_0 a0_1 a0_2 a0_3 = some r) ∧ Aside0 (kq ≤ k2) ∧ Aside0 (Kd.R k32 32 wc w.heap.size (fun _ => True) (.slice Ao22 t277.length co22) t277) ∧ Aside0 (wc.heap[gb275]? = some (.cells #[(.slice A0_0 l0_0.length c0_0), .int .i64 a0_1, .int .i64 a0_2, .string a0_3] 24 (0, 0))) ∧ Aside0 (Below w.heap.size w wc))
       case first =>
        have H := HC21.out
        clear HC21
        by_cases c23 : 0 ≤ x4_2
        ·
         rw [if_pos c23] at H
         have c23b0 : decide (0 ≤ x4_2) = true := decide_eq_true c23
         clear c23
         (first | rw [c23b0] | (simp only [i64_w, i32_w]; rw [c23b0]) | skip)
         replace H := Option.bind_eq_some_iff.mp H
         obtain ⟨t281, A240, H⟩ := H
         replace H : (if t281 = true then (millhandref16_May.j2 k2 t277 x4_2 (((rd_T32 t277 x4_2).f0).toList == a0_3.toList) l0_0 a0_1 a0_2 a0_3) else (millhandref16_May.j2 k2 t277 x4_2 true l0_0 a0_1 a0_2 a0_3)) = some r := H
         have A24 := Aside0.mk A240
         clear A240
         by_cases c25 : t281 = true
         ·
          subst c25
          have H1 : (millhandref16_May.j2 k2 t277 x4_2 (((rd_T32 t277 x4_2).f0).toList == a0_3.toList) l0_0 a0_1 a0_2 a0_3) = some r := by rw [if_pos rfl] at H; exact H
          clear H
          have H := H1
          clear H1
          have H' := Aside0.mk H
          clear H
          try go_wp2
          have n0_ := Aside0.mk (Kd.R_drew HO_3.out)
          have n1_ := Aside0.mk (blk_drew BK275.out)
          have n2_ := Aside0.mk (below_drew1 HB.out)
          clear HO_3
          clear BK275
          clear HB
          have HO_3 := n0_
          have BK275 := n1_
          have HB := n2_
          clear n0_ n1_ n2_
          have p280 : 0 ≤ (x4_2 : Int) := of_decide_eq_true (by first | (with_reducible assumption) | assumption)
          have q280 : x4_2 < (t277.length : Int) := of_decide_eq_true (by first | (with_reducible assumption) | assumption)
          obtain ⟨ad280, e280, hx280_0, hx280_1, hx280_2, hx280_3, hx280_4⟩ := at_T32 (Kd.R_reads' HO_3.out).2.2 x4_2 p280 q280
          cases e280
          replace p280 := eq_true p280
          replace q280 := eq_true q280
          have p282 : 0 ≤ (x4_2 : Int) := of_decide_eq_true (by first | (with_reducible assumption) | assumption)
          have q282 : x4_2 < (t277.length : Int) := of_decide_eq_true (by first | (with_reducible assumption) | assumption)
          obtain ⟨ad282, e282, hx282_0, hx282_1, hx282_2, hx282_3, hx282_4⟩ := at_T32 (Kd.R_reads' HO_3.out).2.2 x4_2 p282 q282
          obtain rfl : ad280 = ad282 := (by injection e282)
          replace p282 := eq_true p282
          replace q282 := eq_true q282
          refine start_ (n := 16) (S := fun w' => w'.cell? ⟨gb275, 0, none⟩ = some (.slice A0_0 l0_0.length c0_0) ∧ w'.cell? ⟨gb275, 1, none⟩ = some (.int .i64 a0_1) ∧ w'.cell? ⟨gb275, 2, none⟩ = some (.int .i64 a0_2) ∧ w'.cell? ⟨gb275, 3, none⟩ = some (.string a0_3) ∧ w'.cell? (ad280.add ((x4_2).toNat * 5)) = some (.string ((rd_T32 t277 x4_2).f0)) ∧ w'.cell? ⟨(ad280.add ((x4_2).toNat * 5)).block, (ad280.add ((x4_2).toNat * 5)).off + 1, none⟩ = some (.int .i64 ((rd_T32 t277 x4_2).f1)) ∧ w'.cell? ⟨(ad280.add ((x4_2).toNat * 5)).block, (ad280.add ((x4_2).toNat * 5)).off + 2, none⟩ = some (.int .i64 ((rd_T32 t277 x4_2).f2)) ∧ w'.cell? ⟨(ad280.add ((x4_2).toNat * 5)).block, (ad280.add ((x4_2).toNat * 5)).off + 3, none⟩ = some (.string ((rd_T32 t277 x4_2).f3)) ∧ w'.cell? ⟨(ad280.add ((x4_2).toNat * 5)).block, (ad280.add ((x4_2).toNat * 5)).off + 4, none⟩ = some (.string ((rd_T32 t277 x4_2).f4)) ∧ w'.cell? (ad280.add ((x4_2).toNat * 5)) = some (.string ((rd_T32 t277 x4_2).f0)) ∧ w'.cell? ⟨(ad280.add ((x4_2).toNat * 5)).block, (ad280.add ((x4_2).toNat * 5)).off + 1, none⟩ = some (.int .i64 ((rd_T32 t277 x4_2).f1)) ∧ w'.cell? ⟨(ad280.add ((x4_2).toNat * 5)).block, (ad280.add ((x4_2).toNat * 5)).off + 2, none⟩ = some (.int .i64 ((rd_T32 t277 x4_2).f2)) ∧ w'.cell? ⟨(ad280.add ((x4_2).toNat * 5)).block, (ad280.add ((x4_2).toNat * 5)).off + 3, none⟩ = some (.string ((rd_T32 t277 x4_2).f3)) ∧ w'.cell? ⟨(ad280.add ((x4_2).toNat * 5)).block, (ad280.add ((x4_2).toNat * 5)).off + 4, none⟩ = some (.string ((rd_T32 t277 x4_2).f4))) (ds := []) (b_ 16 0) (by kernel_rfl) rfl rfl ⟨(blk_cell BK275.out 0).trans rfl, (blk_cell BK275.out 1).trans rfl, (blk_cell BK275.out 2).trans rfl, (blk_cell BK275.out 3).trans rfl, hx280_0, hx280_1, hx280_2, hx280_3, hx280_4, hx282_0, hx282_1, hx282_2, hx282_3, hx282_4⟩ (fun hHeld => ?_); refine with_tabW millhandref16_May.tab7 millhandref16_May.bits7 (fun HT_ HW_ => ?_)
          generalize wr.drew = w26 at HO_3 BK275 HB hx280_0 hx280_1 hx280_2 hx280_3 hx280_4 hx282_0 hx282_1 hx282_2 hx282_3 hx282_4 hHeld ⊢
          refine pA_ 0 46 ?_ (b_ 16 1) (any_of HT_.out (by kernel_rfl)) rfl rfl (fun _ _ _ h => h) (by rfl) ?_ ?_ ?_ ?_
          rotate_left
          ·
           intro w'
           go_simp
           with_reducible rfl
          rotate_left
          ·
           simp only [Act.put, sa_, s0_, s1_, i64_w, i32_w]
           rfl
          refine pA_ 1 47 ?_ (b_ 16 3) (any_of HT_.out (by kernel_rfl)) rfl rfl (fun _ _ _ h => h) (by rfl) ?_ ?_ ?_ ?_
          rotate_left
          ·
           intro w'
           go_simp
           with_reducible rfl
          rotate_left
          ·
           simp only [Act.put, sa_, s0_, s1_, i64_w, i32_w]
           rfl
          refine pA_ 2 48 ?_ (b_ 16 7) (any_of HT_.out (by kernel_rfl)) rfl rfl (fun _ _ _ h => h) (by rfl) ?_ ?_ ?_ ?_
          rotate_left
          ·
           intro w'
           go_simp
           with_reducible rfl
          rotate_left
          ·
           simp only [Act.put, sa_, s0_, s1_, i64_w, i32_w]
           rfl
          refine tA_ 3 49 ?_ (b_ 16 15) (take_ofW HT_.out HW_.out (by kernel_rfl)) rfl rfl (fun _ _ _ h => h) (by rfl) ?_ hHeld ?_ ?_ ?_
          rotate_left
          ·
           rintro w' ⟨s0, s1, s2, s3, s4, s5, s6, s7, s8, s9, s10, s11, s12, s13⟩
           go_simp
           with_reducible rfl
          rotate_left
          ·
           simp only [Act.put, sa_, s0_, s1_, i64_w, i32_w]
           rfl
          refine one_ (i := 4) (N := some 50) (b_ 16 31) rfl rfl (one_of HT_.out (by kernel_rfl)) (by decide) (fun K hK => ?_)
          refine goes_ Try.func58 (by kernel_rfl) rfl #[.agg #[.string ((rd_T32 t277 x4_2).f0), .int .i64 ((rd_T32 t277 x4_2).f1), .int .i64 ((rd_T32 t277 x4_2).f2), .string ((rd_T32 t277 x4_2).f3), .string ((rd_T32 t277 x4_2).f4)]] (by rfl) rfl rfl (by (try simp only [List.map_toArray, List.map_cons, List.map_nil]); first | done | rfl | (simp only [List.length_drop, List.length_take]; rfl)) ?_
          with_reducible refine (millhandref16_Table.calls ((rd_T32 t277 x4_2).f0) ((rd_T32 t277 x4_2).f1) ((rd_T32 t277 x4_2).f2) ((rd_T32 t277 x4_2).f3) ((rd_T32 t277 x4_2).f4) true _ A24.out).mono ?_
          rintro e w27 ⟨rfl, hb⟩
          have HS4_ := (hb.cell (World.block_lt_of_cell? _ _ (hHeld.2.2.2.2.1))).trans (hHeld.2.2.2.2.1)
          have HS5_ := (hb.cell (World.block_lt_of_cell? _ _ (hHeld.2.2.2.2.2.1))).trans (hHeld.2.2.2.2.2.1)
          have HS6_ := (hb.cell (World.block_lt_of_cell? _ _ (hHeld.2.2.2.2.2.2.1))).trans (hHeld.2.2.2.2.2.2.1)
          have HS7_ := (hb.cell (World.block_lt_of_cell? _ _ (hHeld.2.2.2.2.2.2.2.1))).trans (hHeld.2.2.2.2.2.2.2.1)
          have HS8_ := (hb.cell (World.block_lt_of_cell? _ _ (hHeld.2.2.2.2.2.2.2.2.1))).trans (hHeld.2.2.2.2.2.2.2.2.1)
          have HS9_ := (hb.cell (World.block_lt_of_cell? _ _ (hHeld.2.2.2.2.2.2.2.2.2.1))).trans (hHeld.2.2.2.2.2.2.2.2.2.1)
          have HS10_ := (hb.cell (World.block_lt_of_cell? _ _ (hHeld.2.2.2.2.2.2.2.2.2.2.1))).trans (hHeld.2.2.2.2.2.2.2.2.2.2.1)
          have HS11_ := (hb.cell (World.block_lt_of_cell? _ _ (hHeld.2.2.2.2.2.2.2.2.2.2.2.1))).trans (hHeld.2.2.2.2.2.2.2.2.2.2.2.1)
          have HS12_ := (hb.cell (World.block_lt_of_cell? _ _ (hHeld.2.2.2.2.2.2.2.2.2.2.2.2.1))).trans (hHeld.2.2.2.2.2.2.2.2.2.2.2.2.1)
          have HS13_ := (hb.cell (World.block_lt_of_cell? _ _ (hHeld.2.2.2.2.2.2.2.2.2.2.2.2.2))).trans (hHeld.2.2.2.2.2.2.2.2.2.2.2.2.2)
          refine ⟨_, rfl, ?_⟩
          have n0_ := Aside0.mk (Kd.R_below (by (with_reducible repeat (first | apply Kd.R_alloc | apply Kd.R_drewN | apply Kd.R_drew)); exact HO_3.out) hb)
          have n1_ := Aside0.mk (blk_below (g := gb275) (o := .cells #[.slice A0_0 l0_0.length c0_0, .int .i64 a0_1, .int .i64 a0_2, .string a0_3] 24 (0, 0)) (by (with_reducible repeat (first | refine blk_drewN ?_ _ | refine blk_drew ?_ | refine blk_alloc ?_ _)); exact BK275.out) hb)
          have n2_ := Aside0.mk (below_step (by repeat (first | (with_reducible first | exact HB.out | apply below_alloc | apply pw_below_drewN | apply below_drew1 | refine below_set ?_ GE275.out) | exact HB.out)) hb)
          clear HO_3
          clear BK275
          clear HB
          have HO_3 := n0_
          have BK275 := n1_
          have HB := n2_
          clear n0_ n1_ n2_
          (try clear hb)
          (try clear hb2)
          (try clear hk)
          (try clear hi)
          refine hK.out _ _ ⟨(blk_cell BK275.out 0).trans rfl, (blk_cell BK275.out 1).trans rfl, (blk_cell BK275.out 2).trans rfl, (blk_cell BK275.out 3).trans rfl, HS4_, HS5_, HS6_, HS7_, HS8_, HS9_, HS10_, HS11_, HS12_, HS13_⟩ (fun hHeld => ?_)
          clear hK K
          refine norm_ (a' := ?_) ?_ ?_
          rotate_left
          ·
           show Act.put _ (some 50) _ = _
           simp only [Act.put, sa_, s0_, s1_, i64_w, i32_w]
           rfl
          refine pA_ 5 51 ?_ (b_ 16 63) (any_of HT_.out (by kernel_rfl)) rfl rfl (fun _ _ _ h => h) (by rfl) ?_ ?_ ?_ ?_
          rotate_left
          ·
           intro w'
           go_simp
           with_reducible rfl
          rotate_left
          ·
           simp only [Act.put, sa_, s0_, s1_, i64_w, i32_w]
           rfl
          refine pA_ 6 52 ?_ (b_ 16 127) (any_of HT_.out (by kernel_rfl)) rfl rfl (fun _ _ _ h => h) (by rfl) ?_ ?_ ?_ ?_
          rotate_left
          ·
           intro w'
           go_simp
           with_reducible rfl
          rotate_left
          ·
           simp only [Act.put, sa_, s0_, s1_, i64_w, i32_w]
           rfl
          refine pA_ 7 53 ?_ (b_ 16 255) (any_of HT_.out (by kernel_rfl)) rfl rfl (fun _ _ _ h => h) (by rfl) ?_ ?_ ?_ ?_
          rotate_left
          ·
           intro w'
           go_simp
           with_reducible rfl
          rotate_left
          ·
           simp only [Act.put, sa_, s0_, s1_, i64_w, i32_w]
           rfl
          refine pA_ 8 54 ?_ (b_ 16 511) (any_of HT_.out (by kernel_rfl)) rfl rfl (fun _ _ _ h => h) (by rfl) ?_ ?_ ?_ ?_
          rotate_left
          ·
           intro w'
           go_simp
           with_reducible rfl
          rotate_left
          ·
           simp only [Act.put, sa_, s0_, s1_, i64_w, i32_w]
           rfl
          refine pA_ 9 55 ?_ (b_ 16 1023) (any_of HT_.out (by kernel_rfl)) rfl rfl (fun _ _ _ h => h) (by rfl) ?_ ?_ ?_ ?_
          rotate_left
          ·
           intro w'
           go_simp
           with_reducible rfl
          rotate_left
          ·
           simp only [Act.put, sa_, s0_, s1_, i64_w, i32_w]
           rfl
          refine pA_ 10 56 ?_ (b_ 16 2047) (any_of HT_.out (by kernel_rfl)) rfl rfl (fun _ _ _ h => h) (by rfl) ?_ ?_ ?_ ?_
          rotate_left
          ·
           intro w'
           go_simp
           with_reducible rfl
          rotate_left
          ·
           simp only [Act.put, sa_, s0_, s1_, i64_w, i32_w]
           rfl
          refine pA_ 12 58 ?_ (b_ 16 6143) (any_of HT_.out (by kernel_rfl)) rfl rfl (fun _ _ _ h => h) (by rfl) ?_ ?_ ?_ ?_
          rotate_left
          ·
           intro w'
           go_simp
           with_reducible rfl
          rotate_left
          ·
           simp only [Act.put, sa_, s0_, s1_, i64_w, i32_w]
           rfl
          refine tA_ 11 57 ?_ (b_ 16 8191) (take_ofW HT_.out HW_.out (by kernel_rfl)) rfl rfl (fun _ _ _ h => h) (by rfl) ?_ hHeld ?_ ?_ ?_
          rotate_left
          ·
           rintro w' ⟨s0, s1, s2, s3, s4, s5, s6, s7, s8, s9, s10, s11, s12, s13⟩
           go_simp
           with_reducible rfl
          rotate_left
          ·
           simp only [Act.put, sa_, s0_, s1_, i64_w, i32_w]
           rfl
          refine tA_ 13 59 ?_ (b_ 16 16383) (take_ofW HT_.out HW_.out (by kernel_rfl)) rfl rfl (fun _ _ _ h => h) (by rfl) ?_ hHeld ?_ ?_ ?_
          rotate_left
          ·
           rintro w' ⟨s0, s1, s2, s3, s4, s5, s6, s7, s8, s9, s10, s11, s12, s13⟩
           go_simp
           with_reducible rfl
          rotate_left
          ·
           simp only [Act.put, sa_, s0_, s1_, i64_w, i32_w]
           rfl
          refine pA_ 14 60 ?_ (b_ 16 32767) (any_of HT_.out (by kernel_rfl)) rfl rfl (fun _ _ _ h => h) (by rfl) ?_ ?_ ?_ ?_
          rotate_left
          ·
           intro w'
           go_simp
           with_reducible rfl
          rotate_left
          ·
           simp only [Act.put, sa_, s0_, s1_, i64_w, i32_w]
           rfl
          refine pA_ 15 61 ?_ (b_ 16 65535) (any_of HT_.out (by kernel_rfl)) rfl rfl (fun _ _ _ h => h) (by rfl) ?_ ?_ ?_ ?_
          rotate_left
          ·
           intro w'
           go_simp
           with_reducible rfl
          rotate_left
          ·
           simp only [Act.put, sa_, s0_, s1_, i64_w, i32_w]
           rfl
          refine done_ (done_of HT_.out (by kernel_rfl)) ?_
          try go_wp2
          go_meet
          case rel => exact ⟨_, ((((rd_T32 t277 x4_2).f0).toList == a0_3.toList)), (by first | rfl | (simp; done) | (simp [*]; done)), H', ⟨by have := HJ1.out; have := HK2.out; first | omega | exact Nat.le_refl _⟩, ⟨by (with_reducible repeat (first | apply Kd.R_alloc | apply Kd.R_drewN | apply Kd.R_drew)); exact HO_3.out⟩, ⟨by (with_reducible repeat (first | refine blk_drewN ?_ _ | refine blk_drew ?_ | refine blk_alloc ?_ _)); exact BK275.out⟩, ⟨by repeat (first | (with_reducible first | exact HB.out | apply below_alloc | apply pw_below_drewN | apply below_drew1 | refine below_set ?_ GE275.out) | exact HB.out)⟩⟩
         ·
          replace c25 := Bool.eq_false_iff.mpr c25
          subst c25
          have H1 : (millhandref16_May.j2 k2 t277 x4_2 true l0_0 a0_1 a0_2 a0_3) = some r := by rw [if_neg (show ¬ (false = true) by decide)] at H; exact H
          clear H
          have H := H1
          clear H1
          have H' := Aside0.mk H
          clear H
          try go_wp2
          have n0_ := Aside0.mk (Kd.R_drew HO_3.out)
          have n1_ := Aside0.mk (blk_drew BK275.out)
          have n2_ := Aside0.mk (below_drew1 HB.out)
          clear HO_3
          clear BK275
          clear HB
          have HO_3 := n0_
          have BK275 := n1_
          have HB := n2_
          clear n0_ n1_ n2_
          have p280 : 0 ≤ (x4_2 : Int) := of_decide_eq_true (by first | (with_reducible assumption) | assumption)
          have q280 : x4_2 < (t277.length : Int) := of_decide_eq_true (by first | (with_reducible assumption) | assumption)
          obtain ⟨ad280, e280, hx280_0, hx280_1, hx280_2, hx280_3, hx280_4⟩ := at_T32 (Kd.R_reads' HO_3.out).2.2 x4_2 p280 q280
          cases e280
          replace p280 := eq_true p280
          replace q280 := eq_true q280
          refine start_ (n := 16) (S := fun w' => w'.cell? (ad280.add ((x4_2).toNat * 5)) = some (.string ((rd_T32 t277 x4_2).f0)) ∧ w'.cell? ⟨(ad280.add ((x4_2).toNat * 5)).block, (ad280.add ((x4_2).toNat * 5)).off + 1, none⟩ = some (.int .i64 ((rd_T32 t277 x4_2).f1)) ∧ w'.cell? ⟨(ad280.add ((x4_2).toNat * 5)).block, (ad280.add ((x4_2).toNat * 5)).off + 2, none⟩ = some (.int .i64 ((rd_T32 t277 x4_2).f2)) ∧ w'.cell? ⟨(ad280.add ((x4_2).toNat * 5)).block, (ad280.add ((x4_2).toNat * 5)).off + 3, none⟩ = some (.string ((rd_T32 t277 x4_2).f3)) ∧ w'.cell? ⟨(ad280.add ((x4_2).toNat * 5)).block, (ad280.add ((x4_2).toNat * 5)).off + 4, none⟩ = some (.string ((rd_T32 t277 x4_2).f4))) (ds := []) (b_ 16 0) (by kernel_rfl) rfl rfl ⟨hx280_0, hx280_1, hx280_2, hx280_3, hx280_4⟩ (fun hHeld => ?_); refine with_tabW millhandref16_May.tab7 millhandref16_May.bits7 (fun HT_ HW_ => ?_)
          generalize wr.drew = w28 at HO_3 BK275 HB hx280_0 hx280_1 hx280_2 hx280_3 hx280_4 hHeld ⊢
          refine pA_ 0 46 ?_ (b_ 16 1) (any_of HT_.out (by kernel_rfl)) rfl rfl (fun _ _ _ h => h) (by rfl) ?_ ?_ ?_ ?_
          rotate_left
          ·
           intro w'
           go_simp
           with_reducible rfl
          rotate_left
          ·
           simp only [Act.put, sa_, s0_, s1_, i64_w, i32_w]
           rfl
          refine pA_ 1 47 ?_ (b_ 16 3) (any_of HT_.out (by kernel_rfl)) rfl rfl (fun _ _ _ h => h) (by rfl) ?_ ?_ ?_ ?_
          rotate_left
          ·
           intro w'
           go_simp
           with_reducible rfl
          rotate_left
          ·
           simp only [Act.put, sa_, s0_, s1_, i64_w, i32_w]
           rfl
          refine pA_ 2 48 ?_ (b_ 16 7) (any_of HT_.out (by kernel_rfl)) rfl rfl (fun _ _ _ h => h) (by rfl) ?_ ?_ ?_ ?_
          rotate_left
          ·
           intro w'
           go_simp
           with_reducible rfl
          rotate_left
          ·
           simp only [Act.put, sa_, s0_, s1_, i64_w, i32_w]
           rfl
          refine tA_ 3 49 ?_ (b_ 16 15) (take_ofW HT_.out HW_.out (by kernel_rfl)) rfl rfl (fun _ _ _ h => h) (by rfl) ?_ hHeld ?_ ?_ ?_
          rotate_left
          ·
           rintro w' ⟨s0, s1, s2, s3, s4⟩
           go_simp
           with_reducible rfl
          rotate_left
          ·
           simp only [Act.put, sa_, s0_, s1_, i64_w, i32_w]
           rfl
          refine one_ (i := 4) (N := some 50) (b_ 16 31) rfl rfl (one_of HT_.out (by kernel_rfl)) (by decide) (fun K hK => ?_)
          refine goes_ Try.func58 (by kernel_rfl) rfl #[.agg #[.string ((rd_T32 t277 x4_2).f0), .int .i64 ((rd_T32 t277 x4_2).f1), .int .i64 ((rd_T32 t277 x4_2).f2), .string ((rd_T32 t277 x4_2).f3), .string ((rd_T32 t277 x4_2).f4)]] (by rfl) rfl rfl (by (try simp only [List.map_toArray, List.map_cons, List.map_nil]); first | done | rfl | (simp only [List.length_drop, List.length_take]; rfl)) ?_
          with_reducible refine (millhandref16_Table.calls ((rd_T32 t277 x4_2).f0) ((rd_T32 t277 x4_2).f1) ((rd_T32 t277 x4_2).f2) ((rd_T32 t277 x4_2).f3) ((rd_T32 t277 x4_2).f4) false _ A24.out).mono ?_
          rintro e w29 ⟨rfl, hb⟩
          have HS0_ := (hb.cell (World.block_lt_of_cell? _ _ (hHeld.1))).trans (hHeld.1)
          have HS1_ := (hb.cell (World.block_lt_of_cell? _ _ (hHeld.2.1))).trans (hHeld.2.1)
          have HS2_ := (hb.cell (World.block_lt_of_cell? _ _ (hHeld.2.2.1))).trans (hHeld.2.2.1)
          have HS3_ := (hb.cell (World.block_lt_of_cell? _ _ (hHeld.2.2.2.1))).trans (hHeld.2.2.2.1)
          have HS4_ := (hb.cell (World.block_lt_of_cell? _ _ (hHeld.2.2.2.2))).trans (hHeld.2.2.2.2)
          refine ⟨_, rfl, ?_⟩
          have n0_ := Aside0.mk (Kd.R_below (by (with_reducible repeat (first | apply Kd.R_alloc | apply Kd.R_drewN | apply Kd.R_drew)); exact HO_3.out) hb)
          have n1_ := Aside0.mk (blk_below (g := gb275) (o := .cells #[.slice A0_0 l0_0.length c0_0, .int .i64 a0_1, .int .i64 a0_2, .string a0_3] 24 (0, 0)) (by (with_reducible repeat (first | refine blk_drewN ?_ _ | refine blk_drew ?_ | refine blk_alloc ?_ _)); exact BK275.out) hb)
          have n2_ := Aside0.mk (below_step (by repeat (first | (with_reducible first | exact HB.out | apply below_alloc | apply pw_below_drewN | apply below_drew1 | refine below_set ?_ GE275.out) | exact HB.out)) hb)
          clear HO_3
          clear BK275
          clear HB
          have HO_3 := n0_
          have BK275 := n1_
          have HB := n2_
          clear n0_ n1_ n2_
          (try clear hb)
          (try clear hb2)
          (try clear hk)
          (try clear hi)
          refine hK.out _ _ ⟨HS0_, HS1_, HS2_, HS3_, HS4_⟩ (fun hHeld => ?_)
          clear hK K
          refine norm_ (a' := ?_) ?_ ?_
          rotate_left
          ·
           show Act.put _ (some 50) _ = _
           simp only [Act.put, sa_, s0_, s1_, i64_w, i32_w]
           rfl
          refine pA_ 5 51 ?_ (b_ 16 63) (any_of HT_.out (by kernel_rfl)) rfl rfl (fun _ _ _ h => h) (by rfl) ?_ ?_ ?_ ?_
          rotate_left
          ·
           intro w'
           go_simp
           with_reducible rfl
          rotate_left
          ·
           simp only [Act.put, sa_, s0_, s1_, i64_w, i32_w]
           rfl
          refine pA_ 6 52 ?_ (b_ 16 127) (any_of HT_.out (by kernel_rfl)) rfl rfl (fun _ _ _ h => h) (by rfl) ?_ ?_ ?_ ?_
          rotate_left
          ·
           intro w'
           go_simp
           with_reducible rfl
          rotate_left
          ·
           simp only [Act.put, sa_, s0_, s1_, i64_w, i32_w]
           rfl
          refine pB_ 7 53 ?_ (b_ 16 255) (any_of HT_.out (by kernel_rfl)) rfl rfl (fun _ _ _ h => h) (by rfl) ?_ ?_
          rotate_left
          ·
           simp only [Act.put, sa_, s0_, s1_, i64_w, i32_w]
           rfl
          refine pB_ 8 54 ?_ (b_ 16 511) (any_of HT_.out (by kernel_rfl)) rfl rfl (fun _ _ _ h => h) (by rfl) ?_ ?_
          rotate_left
          ·
           simp only [Act.put, sa_, s0_, s1_, i64_w, i32_w]
           rfl
          refine pB_ 9 55 ?_ (b_ 16 1023) (any_of HT_.out (by kernel_rfl)) rfl rfl (fun _ _ _ h => h) (by rfl) ?_ ?_
          rotate_left
          ·
           simp only [Act.put, sa_, s0_, s1_, i64_w, i32_w]
           rfl
          refine pB_ 10 56 ?_ (b_ 16 2047) (any_of HT_.out (by kernel_rfl)) rfl rfl (fun _ _ _ h => h) (by rfl) ?_ ?_
          rotate_left
          ·
           simp only [Act.put, sa_, s0_, s1_, i64_w, i32_w]
           rfl
          refine pB_ 11 57 ?_ (b_ 16 4095) (any_of HT_.out (by kernel_rfl)) rfl rfl (fun _ _ _ h => h) (by rfl) ?_ ?_
          rotate_left
          ·
           simp only [Act.put, sa_, s0_, s1_, i64_w, i32_w]
           rfl
          refine pB_ 12 58 ?_ (b_ 16 8191) (any_of HT_.out (by kernel_rfl)) rfl rfl (fun _ _ _ h => h) (by rfl) ?_ ?_
          rotate_left
          ·
           simp only [Act.put, sa_, s0_, s1_, i64_w, i32_w]
           rfl
          refine pB_ 13 59 ?_ (b_ 16 16383) (any_of HT_.out (by kernel_rfl)) rfl rfl (fun _ _ _ h => h) (by rfl) ?_ ?_
          rotate_left
          ·
           simp only [Act.put, sa_, s0_, s1_, i64_w, i32_w]
           rfl
          refine pB_ 14 60 ?_ (b_ 16 32767) (any_of HT_.out (by kernel_rfl)) rfl rfl (fun _ _ _ h => h) (by rfl) ?_ ?_
          rotate_left
          ·
           simp only [Act.put, sa_, s0_, s1_, i64_w, i32_w]
           rfl
          refine pA_ 15 61 ?_ (b_ 16 65535) (any_of HT_.out (by kernel_rfl)) rfl rfl (fun _ _ _ h => h) (by rfl) ?_ ?_ ?_ ?_
          rotate_left
          ·
           intro w'
           go_simp
           with_reducible rfl
          rotate_left
          ·
           simp only [Act.put, sa_, s0_, s1_, i64_w, i32_w]
           rfl
          refine done_ (done_of HT_.out (by kernel_rfl)) ?_
          try go_wp2
          go_meet
          case rel => exact ⟨_, (true), (by first | rfl | (simp; done) | (simp [*]; done)), H', ⟨by have := HJ1.out; have := HK2.out; first | omega | exact Nat.le_refl _⟩, ⟨by (with_reducible repeat (first | apply Kd.R_alloc | apply Kd.R_drewN | apply Kd.R_drew)); exact HO_3.out⟩, ⟨by (with_reducible repeat (first | refine blk_drewN ?_ _ | refine blk_drew ?_ | refine blk_alloc ?_ _)); exact BK275.out⟩, ⟨by repeat (first | (with_reducible first | exact HB.out | apply below_alloc | apply pw_below_drewN | apply below_drew1 | refine below_set ?_ GE275.out) | exact HB.out)⟩⟩
        ·
         rw [if_neg c23] at H
         exact absurd H (by simp)
       case rest =>
        clear HC21
        try clear c1
        try clear c2
        try clear p2
        try clear q2
        try clear hx2
        try clear c4
        try clear c4b0
        try clear c4b1
        try clear c5
        try clear c6
        try clear c7
        try clear c7b0
        try clear c9
        try clear c9b0
        try clear c11
        try clear c11b0
        try clear c16
        try clear c20
        try clear c20b0
        try clear c23
        try clear c23b0
        try clear c25
        try clear p28
        try clear q28
        try clear hx28
        try clear hcz10_0
        try clear hcz10_1
        try clear hcz10_2
        try clear hcz10_3
        try clear hcz12_0
        try clear hcz12_1
        try clear hcz12_2
        try clear hcz12_3
        try clear hcz13_0
        try clear hcz13_1
        try clear hcz13_2
        try clear hcz13_3
        try clear hcz14_0
        try clear hcz14_1
        try clear hcz14_2
        try clear hcz14_3
        try clear hcz15_0
        try clear hcz15_1
        try clear hcz15_2
        try clear hcz15_3
        try clear hcz18_0
        try clear hcz18_1
        try clear hcz18_2
        try clear hcz18_3
        try clear hcz8_0
        try clear hcz8_1
        try clear hcz8_2
        try clear hcz8_3
        try clear hfz10_0
        try clear hfz10_1
        try clear hfz10_2
        try clear hfz10_3
        try clear hfz12_0
        try clear hfz12_1
        try clear hfz12_2
        try clear hfz12_3
        try clear hfz13_0
        try clear hfz13_1
        try clear hfz13_2
        try clear hfz13_3
        try clear hfz14_0
        try clear hfz14_1
        try clear hfz14_2
        try clear hfz14_3
        try clear hfz15_0
        try clear hfz15_1
        try clear hfz15_2
        try clear hfz15_3
        try clear hfz18_0
        try clear hfz18_1
        try clear hfz18_2
        try clear hfz18_3
        try clear hfz8_0
        try clear hfz8_1
        try clear hfz8_2
        try clear hfz8_3
        try clear hx280_0
        try clear hx280_1
        try clear hx280_2
        try clear hx280_3
        try clear hx280_4
        try clear hx282_0
        try clear hx282_1
        try clear hx282_2
        try clear hx282_3
        try clear hx282_4
        try clear p2
        try clear p280
        try clear p282
        try clear q280
        try clear q282
        obtain ⟨kq, x61_20, rfl, HA, HJ20, HO_3, BK275, HB⟩ := hcut
        cases kq with
        | zero => exact absurd HA.out (by simp [millhandref16_May.j2])
        | succ kj20 =>
         have H := HA.out
         clear HA
         simp only [millhandref16_May.j2] at H
         by_cases c30 : x61_20 = true
         ·
          subst c30
          have H1 : (some false) = some r := by rw [if_pos rfl] at H; exact H
          clear H
          have H := H1
          clear H1
          obtain rfl := Option.some.inj H
          go_wp2
          go_ret
          exact ⟨by first | rfl | (simp [errW_none, errW_some] <;> rfl) | (simp [*, errW_none, errW_some] <;> rfl) | exact ret_ie _ | (simp [*, errW_none, errW_some, bne]; done), by repeat (first | (with_reducible first | exact HB.out | apply below_alloc | apply pw_below_drewN | apply below_drew1 | refine below_set ?_ GE275.out) | exact HB.out)⟩
         ·
          replace c30 := Bool.eq_false_iff.mpr c30
          subst c30
          have H1 : (millhandref16_May.l1 kj20 t277 x4_2 0 l0_0 a0_1 a0_2 a0_3) = some r := by rw [if_neg (show ¬ (false = true) by decide)] at H; exact H
          clear H
          have H := H1
          clear H1
          have H' := Aside0.mk H
          clear H
          go_wp2
          go_loopg [5] kj20 (fun kq v5 w' => ∃ (x5_4 : Int), v5 = .int .i64 x5_4 ∧ Aside0 (millhandref16_May.l1 kq t277 x4_2 x5_4 l0_0 a0_1 a0_2 a0_3 = some r) ∧ Aside0 (kq ≤ kj20) ∧ Aside0 (Kd.R k32 32 w' w.heap.size (fun _ => True) (.slice Ao22 t277.length co22) t277) ∧ Aside0 (w'.heap[gb275]? = some (.cells #[(.slice A0_0 l0_0.length c0_0), .int .i64 a0_1, .int .i64 a0_2, .string a0_3] 24 (0, 0))) ∧ Aside0 (Below w.heap.size w w'))
          case atStart => exact ⟨(0), (by first | rfl | (simp; done) | (simp [*]; done)), H', ⟨Nat.le_refl _⟩, ⟨by (with_reducible repeat (first | apply Kd.R_alloc | apply Kd.R_drewN | apply Kd.R_drew)); exact HO_3.out⟩, ⟨by (with_reducible repeat (first | refine blk_drewN ?_ _ | refine blk_drew ?_ | refine blk_alloc ?_ _)); exact BK275.out⟩, ⟨by repeat (first | (with_reducible first | exact HB.out | apply below_alloc | apply pw_below_drewN | apply below_drew1 | refine below_set ?_ GE275.out) | exact HB.out)⟩⟩
          case round =>
           clear H'
           try clear c1
           try clear c2
           try clear p2
           try clear q2
           try clear hx2
           try clear c3
           try clear c4
           try clear c4b0
           try clear c4b1
           try clear c5
           try clear c6
           try clear c7
           try clear c7b0
           try clear c9
           try clear c9b0
           try clear c11
           try clear c11b0
           try clear c16
           try clear c20
           try clear c20b0
           try clear c23
           try clear c23b0
           try clear c25
           try clear p28
           try clear q28
           try clear hx28
           try clear c30
           try clear hcz10_0
           try clear hcz10_1
           try clear hcz10_2
           try clear hcz10_3
           try clear hcz12_0
           try clear hcz12_1
           try clear hcz12_2
           try clear hcz12_3
           try clear hcz13_0
           try clear hcz13_1
           try clear hcz13_2
           try clear hcz13_3
           try clear hcz14_0
           try clear hcz14_1
           try clear hcz14_2
           try clear hcz14_3
           try clear hcz15_0
           try clear hcz15_1
           try clear hcz15_2
           try clear hcz15_3
           try clear hcz18_0
           try clear hcz18_1
           try clear hcz18_2
           try clear hcz18_3
           try clear hcz8_0
           try clear hcz8_1
           try clear hcz8_2
           try clear hcz8_3
           try clear hfz10_0
           try clear hfz10_1
           try clear hfz10_2
           try clear hfz10_3
           try clear hfz12_0
           try clear hfz12_1
           try clear hfz12_2
           try clear hfz12_3
           try clear hfz13_0
           try clear hfz13_1
           try clear hfz13_2
           try clear hfz13_3
           try clear hfz14_0
           try clear hfz14_1
           try clear hfz14_2
           try clear hfz14_3
           try clear hfz15_0
           try clear hfz15_1
           try clear hfz15_2
           try clear hfz15_3
           try clear hfz18_0
           try clear hfz18_1
           try clear hfz18_2
           try clear hfz18_3
           try clear hfz8_0
           try clear hfz8_1
           try clear hfz8_2
           try clear hfz8_3
           try clear hx280_0
           try clear hx280_1
           try clear hx280_2
           try clear hx280_3
           try clear hx280_4
           try clear hx282_0
           try clear hx282_1
           try clear hx282_2
           try clear hx282_3
           try clear hx282_4
           try clear p2
           try clear p28
           try clear p280
           try clear p282
           try clear q2
           try clear q28
           try clear q280
           try clear q282
           obtain ⟨x5_4, rfl, HA, HK4, HO_3, BK275, HB⟩ := hrel
           cases gk with
           | zero => exact absurd HA.out (by simp [millhandref16_May.l1])
           | succ k4 =>
            have H := HA.out
            clear HA
            simp only [millhandref16_May.l1] at H
            by_cases c31 : x5_4 < x4_2
            ·
             rw [if_pos c31] at H
             have c31b0 : decide (x5_4 < x4_2) = true := decide_eq_true c31
             clear c31
             by_cases c32 : 0 ≤ x5_4
             ·
              rw [if_pos c32] at H
              have c32b0 : decide (0 ≤ x5_4) = true := decide_eq_true c32
              clear c32
              by_cases c33 : x5_4 < (t277.length : Int)
              ·
               rw [if_pos c33] at H
               have c33b0 : decide (x5_4 < (t277.length : Int)) = true := decide_eq_true c33
               clear c33
               by_cases c34 : 0 ≤ x4_2
               ·
                rw [if_pos c34] at H
                have c34b0 : decide (0 ≤ x4_2) = true := decide_eq_true c34
                clear c34
                by_cases c35 : x4_2 < (t277.length : Int)
                ·
                 rw [if_pos c35] at H
                 have c35b0 : decide (x4_2 < (t277.length : Int)) = true := decide_eq_true c35
                 clear c35
                 by_cases c36 : ((rd_T32 t277 x5_4).f0).toList = ((rd_T32 t277 x4_2).f0).toList
                 ·
                  rw [if_pos c36] at H
                  have c36b0 : (((rd_T32 t277 x5_4).f0).toList == ((rd_T32 t277 x4_2).f0).toList) = true := beq_iff_eq.mpr c36
                  have c36b1 : (((rd_T32 t277 x5_4).f0).toList != ((rd_T32 t277 x4_2).f0).toList) = false := bne_eq_false_iff_eq.mpr c36
                  clear c36
                  obtain rfl := Option.some.inj H
                  try go_wp2
                  have n0_ := Aside0.mk (Kd.R_drew HO_3.out)
                  have n1_ := Aside0.mk (blk_drew BK275.out)
                  have n2_ := Aside0.mk (below_drew1 HB.out)
                  clear HO_3
                  clear BK275
                  clear HB
                  have HO_3 := n0_
                  have BK275 := n1_
                  have HB := n2_
                  clear n0_ n1_ n2_
                  have p283 : 0 ≤ (x5_4 : Int) := of_decide_eq_true (by first | (with_reducible assumption) | assumption)
                  have q283 : x5_4 < (t277.length : Int) := of_decide_eq_true (by first | (with_reducible assumption) | assumption)
                  obtain ⟨ad283, e283, hx283_0, hx283_1, hx283_2, hx283_3, hx283_4⟩ := at_T32 (Kd.R_reads' HO_3.out).2.2 x5_4 p283 q283
                  cases e283
                  replace p283 := eq_true p283
                  replace q283 := eq_true q283
                  have p284 : 0 ≤ (x4_2 : Int) := of_decide_eq_true (by first | (with_reducible assumption) | assumption)
                  have q284 : x4_2 < (t277.length : Int) := of_decide_eq_true (by first | (with_reducible assumption) | assumption)
                  obtain ⟨ad284, e284, hx284_0, hx284_1, hx284_2, hx284_3, hx284_4⟩ := at_T32 (Kd.R_reads' HO_3.out).2.2 x4_2 p284 q284
                  obtain rfl : ad283 = ad284 := (by injection e284)
                  replace p284 := eq_true p284
                  replace q284 := eq_true q284
                  refine start_ (n := 11) (S := fun w' => w'.cell? (ad283.add ((x5_4).toNat * 5)) = some (.string ((rd_T32 t277 x5_4).f0)) ∧ w'.cell? ⟨(ad283.add ((x5_4).toNat * 5)).block, (ad283.add ((x5_4).toNat * 5)).off + 1, none⟩ = some (.int .i64 ((rd_T32 t277 x5_4).f1)) ∧ w'.cell? ⟨(ad283.add ((x5_4).toNat * 5)).block, (ad283.add ((x5_4).toNat * 5)).off + 2, none⟩ = some (.int .i64 ((rd_T32 t277 x5_4).f2)) ∧ w'.cell? ⟨(ad283.add ((x5_4).toNat * 5)).block, (ad283.add ((x5_4).toNat * 5)).off + 3, none⟩ = some (.string ((rd_T32 t277 x5_4).f3)) ∧ w'.cell? ⟨(ad283.add ((x5_4).toNat * 5)).block, (ad283.add ((x5_4).toNat * 5)).off + 4, none⟩ = some (.string ((rd_T32 t277 x5_4).f4)) ∧ w'.cell? (ad283.add ((x4_2).toNat * 5)) = some (.string ((rd_T32 t277 x4_2).f0)) ∧ w'.cell? ⟨(ad283.add ((x4_2).toNat * 5)).block, (ad283.add ((x4_2).toNat * 5)).off + 1, none⟩ = some (.int .i64 ((rd_T32 t277 x4_2).f1)) ∧ w'.cell? ⟨(ad283.add ((x4_2).toNat * 5)).block, (ad283.add ((x4_2).toNat * 5)).off + 2, none⟩ = some (.int .i64 ((rd_T32 t277 x4_2).f2)) ∧ w'.cell? ⟨(ad283.add ((x4_2).toNat * 5)).block, (ad283.add ((x4_2).toNat * 5)).off + 3, none⟩ = some (.string ((rd_T32 t277 x4_2).f3)) ∧ w'.cell? ⟨(ad283.add ((x4_2).toNat * 5)).block, (ad283.add ((x4_2).toNat * 5)).off + 4, none⟩ = some (.string ((rd_T32 t277 x4_2).f4))) (ds := []) (b_ 11 0) (by kernel_rfl) rfl rfl ⟨hx283_0, hx283_1, hx283_2, hx283_3, hx283_4, hx284_0, hx284_1, hx284_2, hx284_3, hx284_4⟩ (fun hHeld => ?_); refine with_tabW millhandref16_May.tab12 millhandref16_May.bits12 (fun HT_ HW_ => ?_)
                  generalize wr.drew = w37 at HO_3 BK275 HB hx283_0 hx283_1 hx283_2 hx283_3 hx283_4 hx284_0 hx284_1 hx284_2 hx284_3 hx284_4 hHeld ⊢
                  refine pA_ 0 67 ?_ (b_ 11 1) (any_of HT_.out (by kernel_rfl)) rfl rfl (fun _ _ _ h => h) (by rfl) ?_ ?_ ?_ ?_
                  rotate_left
                  ·
                   intro w'
                   go_simp
                   with_reducible rfl
                  rotate_left
                  ·
                   simp only [Act.put, sa_, s0_, s1_, i64_w, i32_w]
                   rfl
                  refine pA_ 1 68 ?_ (b_ 11 3) (any_of HT_.out (by kernel_rfl)) rfl rfl (fun _ _ _ h => h) (by rfl) ?_ ?_ ?_ ?_
                  rotate_left
                  ·
                   intro w'
                   go_simp
                   with_reducible rfl
                  rotate_left
                  ·
                   simp only [Act.put, sa_, s0_, s1_, i64_w, i32_w]
                   rfl
                  refine pA_ 2 69 ?_ (b_ 11 7) (any_of HT_.out (by kernel_rfl)) rfl rfl (fun _ _ _ h => h) (by rfl) ?_ ?_ ?_ ?_
                  rotate_left
                  ·
                   intro w'
                   go_simp
                   with_reducible rfl
                  rotate_left
                  ·
                   simp only [Act.put, sa_, s0_, s1_, i64_w, i32_w]
                   rfl
                  refine pA_ 3 70 ?_ (b_ 11 15) (any_of HT_.out (by kernel_rfl)) rfl rfl (fun _ _ _ h => h) (by rfl) ?_ ?_ ?_ ?_
                  rotate_left
                  ·
                   intro w'
                   go_simp
                   with_reducible rfl
                  rotate_left
                  ·
                   simp only [Act.put, sa_, s0_, s1_, i64_w, i32_w]
                   rfl
                  refine pA_ 5 72 ?_ (b_ 11 47) (any_of HT_.out (by kernel_rfl)) rfl rfl (fun _ _ _ h => h) (by rfl) ?_ ?_ ?_ ?_
                  rotate_left
                  ·
                   intro w'
                   go_simp
                   with_reducible rfl
                  rotate_left
                  ·
                   simp only [Act.put, sa_, s0_, s1_, i64_w, i32_w]
                   rfl
                  refine pA_ 6 73 ?_ (b_ 11 111) (any_of HT_.out (by kernel_rfl)) rfl rfl (fun _ _ _ h => h) (by rfl) ?_ ?_ ?_ ?_
                  rotate_left
                  ·
                   intro w'
                   go_simp
                   with_reducible rfl
                  rotate_left
                  ·
                   simp only [Act.put, sa_, s0_, s1_, i64_w, i32_w]
                   rfl
                  refine pA_ 7 74 ?_ (b_ 11 239) (any_of HT_.out (by kernel_rfl)) rfl rfl (fun _ _ _ h => h) (by rfl) ?_ ?_ ?_ ?_
                  rotate_left
                  ·
                   intro w'
                   go_simp
                   with_reducible rfl
                  rotate_left
                  ·
                   simp only [Act.put, sa_, s0_, s1_, i64_w, i32_w]
                   rfl
                  refine pA_ 8 75 ?_ (b_ 11 495) (any_of HT_.out (by kernel_rfl)) rfl rfl (fun _ _ _ h => h) (by rfl) ?_ ?_ ?_ ?_
                  rotate_left
                  ·
                   intro w'
                   go_simp
                   with_reducible rfl
                  rotate_left
                  ·
                   simp only [Act.put, sa_, s0_, s1_, i64_w, i32_w]
                   rfl
                  refine tA_ 4 71 ?_ (b_ 11 511) (take_ofW HT_.out HW_.out (by kernel_rfl)) rfl rfl (fun _ _ _ h => h) (by rfl) ?_ hHeld ?_ ?_ ?_
                  rotate_left
                  ·
                   rintro w' ⟨s0, s1, s2, s3, s4, s5, s6, s7, s8, s9⟩
                   go_simp
                   with_reducible rfl
                  rotate_left
                  ·
                   simp only [Act.put, sa_, s0_, s1_, i64_w, i32_w]
                   rfl
                  refine tA_ 9 76 ?_ (b_ 11 1023) (take_ofW HT_.out HW_.out (by kernel_rfl)) rfl rfl (fun _ _ _ h => h) (by rfl) ?_ hHeld ?_ ?_ ?_
                  rotate_left
                  ·
                   rintro w' ⟨s0, s1, s2, s3, s4, s5, s6, s7, s8, s9⟩
                   go_simp
                   with_reducible rfl
                  rotate_left
                  ·
                   simp only [Act.put, sa_, s0_, s1_, i64_w, i32_w]
                   rfl
                  refine pA_ 10 77 ?_ (b_ 11 2047) (any_of HT_.out (by kernel_rfl)) rfl rfl (fun _ _ _ h => h) (by rfl) ?_ ?_ ?_ ?_
                  rotate_left
                  ·
                   intro w'
                   go_simp
                   with_reducible rfl
                  rotate_left
                  ·
                   simp only [Act.put, sa_, s0_, s1_, i64_w, i32_w]
                   rfl
                  refine done_ (done_of HT_.out (by kernel_rfl)) ?_
                  try go_wp2
                  go_ret
                  exact ⟨by first | rfl | (simp [errW_none, errW_some] <;> rfl) | (simp [*, errW_none, errW_some] <;> rfl) | exact ret_ie _ | (simp [*, errW_none, errW_some, bne]; done), by repeat (first | (with_reducible first | exact HB.out | apply below_alloc | apply pw_below_drewN | apply below_drew1 | refine below_set ?_ GE275.out) | exact HB.out)⟩
                 ·
                  rw [if_neg c36] at H
                  have c36b0 : (((rd_T32 t277 x5_4).f0).toList == ((rd_T32 t277 x4_2).f0).toList) = false := beq_eq_false_iff_ne.mpr c36
                  have c36b1 : (((rd_T32 t277 x5_4).f0).toList != ((rd_T32 t277 x4_2).f0).toList) = true := bne_iff_ne.mpr c36
                  have H' := Aside0.mk H
                  clear H
                  try go_wp2
                  have n0_ := Aside0.mk (Kd.R_drew HO_3.out)
                  have n1_ := Aside0.mk (blk_drew BK275.out)
                  have n2_ := Aside0.mk (below_drew1 HB.out)
                  clear HO_3
                  clear BK275
                  clear HB
                  have HO_3 := n0_
                  have BK275 := n1_
                  have HB := n2_
                  clear n0_ n1_ n2_
                  have p283 : 0 ≤ (x5_4 : Int) := of_decide_eq_true (by first | (with_reducible assumption) | assumption)
                  have q283 : x5_4 < (t277.length : Int) := of_decide_eq_true (by first | (with_reducible assumption) | assumption)
                  obtain ⟨ad283, e283, hx283_0, hx283_1, hx283_2, hx283_3, hx283_4⟩ := at_T32 (Kd.R_reads' HO_3.out).2.2 x5_4 p283 q283
                  cases e283
                  replace p283 := eq_true p283
                  replace q283 := eq_true q283
                  have p284 : 0 ≤ (x4_2 : Int) := of_decide_eq_true (by first | (with_reducible assumption) | assumption)
                  have q284 : x4_2 < (t277.length : Int) := of_decide_eq_true (by first | (with_reducible assumption) | assumption)
                  obtain ⟨ad284, e284, hx284_0, hx284_1, hx284_2, hx284_3, hx284_4⟩ := at_T32 (Kd.R_reads' HO_3.out).2.2 x4_2 p284 q284
                  obtain rfl : ad283 = ad284 := (by injection e284)
                  replace p284 := eq_true p284
                  replace q284 := eq_true q284
                  refine start_ (n := 11) (S := fun w' => w'.cell? (ad283.add ((x5_4).toNat * 5)) = some (.string ((rd_T32 t277 x5_4).f0)) ∧ w'.cell? ⟨(ad283.add ((x5_4).toNat * 5)).block, (ad283.add ((x5_4).toNat * 5)).off + 1, none⟩ = some (.int .i64 ((rd_T32 t277 x5_4).f1)) ∧ w'.cell? ⟨(ad283.add ((x5_4).toNat * 5)).block, (ad283.add ((x5_4).toNat * 5)).off + 2, none⟩ = some (.int .i64 ((rd_T32 t277 x5_4).f2)) ∧ w'.cell? ⟨(ad283.add ((x5_4).toNat * 5)).block, (ad283.add ((x5_4).toNat * 5)).off + 3, none⟩ = some (.string ((rd_T32 t277 x5_4).f3)) ∧ w'.cell? ⟨(ad283.add ((x5_4).toNat * 5)).block, (ad283.add ((x5_4).toNat * 5)).off + 4, none⟩ = some (.string ((rd_T32 t277 x5_4).f4)) ∧ w'.cell? (ad283.add ((x4_2).toNat * 5)) = some (.string ((rd_T32 t277 x4_2).f0)) ∧ w'.cell? ⟨(ad283.add ((x4_2).toNat * 5)).block, (ad283.add ((x4_2).toNat * 5)).off + 1, none⟩ = some (.int .i64 ((rd_T32 t277 x4_2).f1)) ∧ w'.cell? ⟨(ad283.add ((x4_2).toNat * 5)).block, (ad283.add ((x4_2).toNat * 5)).off + 2, none⟩ = some (.int .i64 ((rd_T32 t277 x4_2).f2)) ∧ w'.cell? ⟨(ad283.add ((x4_2).toNat * 5)).block, (ad283.add ((x4_2).toNat * 5)).off + 3, none⟩ = some (.string ((rd_T32 t277 x4_2).f3)) ∧ w'.cell? ⟨(ad283.add ((x4_2).toNat * 5)).block, (ad283.add ((x4_2).toNat * 5)).off + 4, none⟩ = some (.string ((rd_T32 t277 x4_2).f4))) (ds := []) (b_ 11 0) (by kernel_rfl) rfl rfl ⟨hx283_0, hx283_1, hx283_2, hx283_3, hx283_4, hx284_0, hx284_1, hx284_2, hx284_3, hx284_4⟩ (fun hHeld => ?_); refine with_tabW millhandref16_May.tab12 millhandref16_May.bits12 (fun HT_ HW_ => ?_)
                  generalize wr.drew = w38 at HO_3 BK275 HB hx283_0 hx283_1 hx283_2 hx283_3 hx283_4 hx284_0 hx284_1 hx284_2 hx284_3 hx284_4 hHeld ⊢
                  refine pA_ 0 67 ?_ (b_ 11 1) (any_of HT_.out (by kernel_rfl)) rfl rfl (fun _ _ _ h => h) (by rfl) ?_ ?_ ?_ ?_
                  rotate_left
                  ·
                   intro w'
                   go_simp
                   with_reducible rfl
                  rotate_left
                  ·
                   simp only [Act.put, sa_, s0_, s1_, i64_w, i32_w]
                   rfl
                  refine pA_ 1 68 ?_ (b_ 11 3) (any_of HT_.out (by kernel_rfl)) rfl rfl (fun _ _ _ h => h) (by rfl) ?_ ?_ ?_ ?_
                  rotate_left
                  ·
                   intro w'
                   go_simp
                   with_reducible rfl
                  rotate_left
                  ·
                   simp only [Act.put, sa_, s0_, s1_, i64_w, i32_w]
                   rfl
                  refine pA_ 2 69 ?_ (b_ 11 7) (any_of HT_.out (by kernel_rfl)) rfl rfl (fun _ _ _ h => h) (by rfl) ?_ ?_ ?_ ?_
                  rotate_left
                  ·
                   intro w'
                   go_simp
                   with_reducible rfl
                  rotate_left
                  ·
                   simp only [Act.put, sa_, s0_, s1_, i64_w, i32_w]
                   rfl
                  refine pA_ 3 70 ?_ (b_ 11 15) (any_of HT_.out (by kernel_rfl)) rfl rfl (fun _ _ _ h => h) (by rfl) ?_ ?_ ?_ ?_
                  rotate_left
                  ·
                   intro w'
                   go_simp
                   with_reducible rfl
                  rotate_left
                  ·
                   simp only [Act.put, sa_, s0_, s1_, i64_w, i32_w]
                   rfl
                  refine pA_ 5 72 ?_ (b_ 11 47) (any_of HT_.out (by kernel_rfl)) rfl rfl (fun _ _ _ h => h) (by rfl) ?_ ?_ ?_ ?_
                  rotate_left
                  ·
                   intro w'
                   go_simp
                   with_reducible rfl
                  rotate_left
                  ·
                   simp only [Act.put, sa_, s0_, s1_, i64_w, i32_w]
                   rfl
                  refine pA_ 6 73 ?_ (b_ 11 111) (any_of HT_.out (by kernel_rfl)) rfl rfl (fun _ _ _ h => h) (by rfl) ?_ ?_ ?_ ?_
                  rotate_left
                  ·
                   intro w'
                   go_simp
                   with_reducible rfl
                  rotate_left
                  ·
                   simp only [Act.put, sa_, s0_, s1_, i64_w, i32_w]
                   rfl
                  refine pA_ 7 74 ?_ (b_ 11 239) (any_of HT_.out (by kernel_rfl)) rfl rfl (fun _ _ _ h => h) (by rfl) ?_ ?_ ?_ ?_
                  rotate_left
                  ·
                   intro w'
                   go_simp
                   with_reducible rfl
                  rotate_left
                  ·
                   simp only [Act.put, sa_, s0_, s1_, i64_w, i32_w]
                   rfl
                  refine pA_ 8 75 ?_ (b_ 11 495) (any_of HT_.out (by kernel_rfl)) rfl rfl (fun _ _ _ h => h) (by rfl) ?_ ?_ ?_ ?_
                  rotate_left
                  ·
                   intro w'
                   go_simp
                   with_reducible rfl
                  rotate_left
                  ·
                   simp only [Act.put, sa_, s0_, s1_, i64_w, i32_w]
                   rfl
                  refine tA_ 4 71 ?_ (b_ 11 511) (take_ofW HT_.out HW_.out (by kernel_rfl)) rfl rfl (fun _ _ _ h => h) (by rfl) ?_ hHeld ?_ ?_ ?_
                  rotate_left
                  ·
                   rintro w' ⟨s0, s1, s2, s3, s4, s5, s6, s7, s8, s9⟩
                   go_simp
                   with_reducible rfl
                  rotate_left
                  ·
                   simp only [Act.put, sa_, s0_, s1_, i64_w, i32_w]
                   rfl
                  refine tA_ 9 76 ?_ (b_ 11 1023) (take_ofW HT_.out HW_.out (by kernel_rfl)) rfl rfl (fun _ _ _ h => h) (by rfl) ?_ hHeld ?_ ?_ ?_
                  rotate_left
                  ·
                   rintro w' ⟨s0, s1, s2, s3, s4, s5, s6, s7, s8, s9⟩
                   go_simp
                   with_reducible rfl
                  rotate_left
                  ·
                   simp only [Act.put, sa_, s0_, s1_, i64_w, i32_w]
                   rfl
                  refine pA_ 10 77 ?_ (b_ 11 2047) (any_of HT_.out (by kernel_rfl)) rfl rfl (fun _ _ _ h => h) (by rfl) ?_ ?_ ?_ ?_
                  rotate_left
                  ·
                   intro w'
                   go_simp
                   with_reducible rfl
                  rotate_left
                  ·
                   simp only [Act.put, sa_, s0_, s1_, i64_w, i32_w]
                   rfl
                  refine done_ (done_of HT_.out (by kernel_rfl)) ?_
                  try go_wp2
                  go_roundg k4
                  case measure => have := HJ1.out; have := HK2.out; have := HJ20.out; have := HK4.out; omega
                  case rel => exact ⟨(wrap64 (x5_4 + 1)), (by first | rfl | (simp; done) | (simp [*]; done)), H', ⟨by have := HJ1.out; have := HK2.out; have := HJ20.out; have := HK4.out; omega⟩, ⟨by (with_reducible repeat (first | apply Kd.R_alloc | apply Kd.R_drewN | apply Kd.R_drew)); exact HO_3.out⟩, ⟨by (with_reducible repeat (first | refine blk_drewN ?_ _ | refine blk_drew ?_ | refine blk_alloc ?_ _)); exact BK275.out⟩, ⟨by repeat (first | (with_reducible first | exact HB.out | apply below_alloc | apply pw_below_drewN | apply below_drew1 | refine below_set ?_ GE275.out) | exact HB.out)⟩⟩
                ·
                 rw [if_neg c35] at H
                 exact absurd H (by simp)
               ·
                rw [if_neg c34] at H
                exact absurd H (by simp)
              ·
               rw [if_neg c33] at H
               exact absurd H (by simp)
             ·
              rw [if_neg c32] at H
              exact absurd H (by simp)
            ·
             rw [if_neg c31] at H
             have c31b0 : decide (x5_4 < x4_2) = false := decide_eq_false c31
             clear c31
             have H' := Aside0.mk H
             clear H
             go_wp2
             go_roundg k4
             case measure => have := HJ1.out; have := HK2.out; have := HJ20.out; have := HK4.out; omega
             case rel => exact ⟨(wrap64 (x4_2 + 1)), (by first | rfl | (simp; done) | (simp [*]; done)), H', ⟨by have := HJ1.out; have := HK2.out; have := HJ20.out; have := HK4.out; omega⟩, ⟨by (with_reducible repeat (first | apply Kd.R_alloc | apply Kd.R_drewN | apply Kd.R_drew)); exact HO_3.out⟩, ⟨by (with_reducible repeat (first | refine blk_drewN ?_ _ | refine blk_drew ?_ | refine blk_alloc ?_ _)); exact BK275.out⟩, ⟨by repeat (first | (with_reducible first | exact HB.out | apply below_alloc | apply pw_below_drewN | apply below_drew1 | refine below_set ?_ GE275.out) | exact HB.out)⟩⟩
      ·
       rw [if_neg c20] at H
       have c20b0 : decide (x4_2 < (t277.length : Int)) = false := decide_eq_false c20
       clear c20
       have H' := Aside0.mk H
       clear H
       obtain ⟨Ao39, co39, eo39⟩ := Kd.R_slice HO_3.out
       subst eo39
       go_wp2
       go_loopg [6] k2 (fun kq v6 w' => ∃ (x6_3 : Int), v6 = .int .i64 x6_3 ∧ Aside0 (millhandref16_May.l2 kq x6_3 l0_0 a0_1 a0_2 a0_3 = some r) ∧ Aside0 (kq ≤ k2) ∧ Aside0 (w'.heap[gb275]? = some (.cells #[(.slice A0_0 l0_0.length c0_0), .int .i64 a0_1, .int .i64 a0_2, .string a0_3] 24 (0, 0))) ∧ Aside0 (Below w.heap.size w w'))
       case atStart => exact ⟨(1), (by first | rfl | (simp; done) | (simp [*]; done)), H', ⟨Nat.le_refl _⟩, ⟨by (with_reducible repeat (first | refine blk_drewN ?_ _ | refine blk_drew ?_ | refine blk_alloc ?_ _)); exact BK275.out⟩, ⟨by repeat (first | (with_reducible first | exact HB.out | apply below_alloc | apply pw_below_drewN | apply below_drew1 | refine below_set ?_ GE275.out) | exact HB.out)⟩⟩
       case round =>
        clear H'
        try clear c1
        try clear c2
        try clear p2
        try clear q2
        try clear hx2
        try clear c3
        try clear c4
        try clear c4b0
        try clear c4b1
        try clear c5
        try clear c6
        try clear p6
        try clear c7
        try clear c7b0
        try clear c9
        try clear c9b0
        try clear c11
        try clear c11b0
        try clear c16
        try clear c20
        try clear c20b0
        try clear c23
        try clear c23b0
        try clear c25
        try clear p28
        try clear q28
        try clear hx28
        try clear c30
        try clear c31
        try clear c31b0
        try clear c32
        try clear c32b0
        try clear c33
        try clear c33b0
        try clear c34
        try clear c34b0
        try clear c35
        try clear c35b0
        try clear c36
        try clear c36b0
        try clear c36b1
        try clear hcz10_0
        try clear hcz10_1
        try clear hcz10_2
        try clear hcz10_3
        try clear hcz12_0
        try clear hcz12_1
        try clear hcz12_2
        try clear hcz12_3
        try clear hcz13_0
        try clear hcz13_1
        try clear hcz13_2
        try clear hcz13_3
        try clear hcz14_0
        try clear hcz14_1
        try clear hcz14_2
        try clear hcz14_3
        try clear hcz15_0
        try clear hcz15_1
        try clear hcz15_2
        try clear hcz15_3
        try clear hcz18_0
        try clear hcz18_1
        try clear hcz18_2
        try clear hcz18_3
        try clear hcz8_0
        try clear hcz8_1
        try clear hcz8_2
        try clear hcz8_3
        try clear hfz10_0
        try clear hfz10_1
        try clear hfz10_2
        try clear hfz10_3
        try clear hfz12_0
        try clear hfz12_1
        try clear hfz12_2
        try clear hfz12_3
        try clear hfz13_0
        try clear hfz13_1
        try clear hfz13_2
        try clear hfz13_3
        try clear hfz14_0
        try clear hfz14_1
        try clear hfz14_2
        try clear hfz14_3
        try clear hfz15_0
        try clear hfz15_1
        try clear hfz15_2
        try clear hfz15_3
        try clear hfz18_0
        try clear hfz18_1
        try clear hfz18_2
        try clear hfz18_3
        try clear hfz8_0
        try clear hfz8_1
        try clear hfz8_2
        try clear hfz8_3
        try clear hx280_0
        try clear hx280_1
        try clear hx280_2
        try clear hx280_3
        try clear hx280_4
        try clear hx282_0
        try clear hx282_1
        try clear hx282_2
        try clear hx282_3
        try clear hx282_4
        try clear hx283_0
        try clear hx283_1
        try clear hx283_2
        try clear hx283_3
        try clear hx283_4
        try clear hx284_0
        try clear hx284_1
        try clear hx284_2
        try clear hx284_3
        try clear hx284_4
        try clear p2
        try clear p28
        try clear p280
        try clear p282
        try clear p283
        try clear p284
        try clear q2
        try clear q28
        try clear q280
        try clear q282
        try clear q283
        try clear q284
        obtain ⟨x6_3, rfl, HA, HK3, BK275, HB⟩ := hrel
        cases gk with
        | zero => exact absurd HA.out (by simp [millhandref16_May.l2])
        | succ k3 =>
         have H := HA.out
         clear HA
         simp only [millhandref16_May.l2] at H
         by_cases c40 : x6_3 < 4
         ·
          rw [if_pos c40] at H
          have c40b0 : decide (x6_3 < 4) = true := decide_eq_true c40
          clear c40
          have H' := Aside0.mk H
          clear H
          go_wp2
          go_loopg [7] k3 (fun kq v7 w' => ∃ (x7_4 : Int), v7 = .int .i64 x7_4 ∧ Aside0 (millhandref16_May.l3 kq x6_3 x7_4 l0_0 a0_1 a0_2 a0_3 = some r) ∧ Aside0 (kq ≤ k3) ∧ Aside0 (w'.heap[gb275]? = some (.cells #[(.slice A0_0 l0_0.length c0_0), .int .i64 a0_1, .int .i64 a0_2, .string a0_3] 24 (0, 0))) ∧ Aside0 (Below w.heap.size w w'))
          case atStart => exact ⟨(1), (by first | rfl | (simp; done) | (simp [*]; done)), H', ⟨Nat.le_refl _⟩, ⟨by (with_reducible repeat (first | refine blk_drewN ?_ _ | refine blk_drew ?_ | refine blk_alloc ?_ _)); exact BK275.out⟩, ⟨by repeat (first | (with_reducible first | exact HB.out | apply below_alloc | apply pw_below_drewN | apply below_drew1 | refine below_set ?_ GE275.out) | exact HB.out)⟩⟩
          case round =>
           clear H'
           try clear c1
           try clear c2
           try clear p2
           try clear q2
           try clear hx2
           try clear c3
           try clear c4
           try clear c4b0
           try clear c4b1
           try clear c5
           try clear c6
           try clear p6
           try clear c7
           try clear c7b0
           try clear c9
           try clear c9b0
           try clear c11
           try clear c11b0
           try clear c16
           try clear c20
           try clear c20b0
           try clear c23
           try clear c23b0
           try clear c25
           try clear p28
           try clear q28
           try clear hx28
           try clear c30
           try clear c31
           try clear c31b0
           try clear c32
           try clear c32b0
           try clear c33
           try clear c33b0
           try clear c34
           try clear c34b0
           try clear c35
           try clear c35b0
           try clear c36
           try clear c36b0
           try clear c36b1
           try clear c40
           try clear c40b0
           try clear hcz10_0
           try clear hcz10_1
           try clear hcz10_2
           try clear hcz10_3
           try clear hcz12_0
           try clear hcz12_1
           try clear hcz12_2
           try clear hcz12_3
           try clear hcz13_0
           try clear hcz13_1
           try clear hcz13_2
           try clear hcz13_3
           try clear hcz14_0
           try clear hcz14_1
           try clear hcz14_2
           try clear hcz14_3
           try clear hcz15_0
           try clear hcz15_1
           try clear hcz15_2
           try clear hcz15_3
           try clear hcz18_0
           try clear hcz18_1
           try clear hcz18_2
           try clear hcz18_3
           try clear hcz8_0
           try clear hcz8_1
           try clear hcz8_2
           try clear hcz8_3
           try clear hfz10_0
           try clear hfz10_1
           try clear hfz10_2
           try clear hfz10_3
           try clear hfz12_0
           try clear hfz12_1
           try clear hfz12_2
           try clear hfz12_3
           try clear hfz13_0
           try clear hfz13_1
           try clear hfz13_2
           try clear hfz13_3
           try clear hfz14_0
           try clear hfz14_1
           try clear hfz14_2
           try clear hfz14_3
           try clear hfz15_0
           try clear hfz15_1
           try clear hfz15_2
           try clear hfz15_3
           try clear hfz18_0
           try clear hfz18_1
           try clear hfz18_2
           try clear hfz18_3
           try clear hfz8_0
           try clear hfz8_1
           try clear hfz8_2
           try clear hfz8_3
           try clear hx280_0
           try clear hx280_1
           try clear hx280_2
           try clear hx280_3
           try clear hx280_4
           try clear hx282_0
           try clear hx282_1
           try clear hx282_2
           try clear hx282_3
           try clear hx282_4
           try clear hx283_0
           try clear hx283_1
           try clear hx283_2
           try clear hx283_3
           try clear hx283_4
           try clear hx284_0
           try clear hx284_1
           try clear hx284_2
           try clear hx284_3
           try clear hx284_4
           try clear p2
           try clear p28
           try clear p280
           try clear p282
           try clear p283
           try clear p284
           try clear p6
           try clear q2
           try clear q28
           try clear q280
           try clear q282
           try clear q283
           try clear q284
           obtain ⟨x7_4, rfl, HA, HK4, BK275, HB⟩ := hrel
           cases gk with
           | zero => exact absurd HA.out (by simp [millhandref16_May.l3])
           | succ k4 =>
            have H := HA.out
            clear HA
            simp only [millhandref16_May.l3] at H
            by_cases c41 : 0 ≤ x6_3
            ·
             rw [if_pos c41] at H
             have c41b0 : decide (0 ≤ x6_3) = true := decide_eq_true c41
             clear c41
             by_cases c42 : x6_3 < (l0_0.length : Int)
             ·
              rw [if_pos c42] at H
              have c42b0 : decide (x6_3 < (l0_0.length : Int)) = true := decide_eq_true c42
              clear c42
              by_cases c43 : x7_4 < ((rd_L3 l0_0 x6_3).length : Int)
              ·
               rw [if_pos c43] at H
               have c43b0 : decide (x7_4 < ((rd_L3 l0_0 x6_3).length : Int)) = true := decide_eq_true c43
               clear c43
               by_cases c44 : 0 ≤ x7_4
               ·
                rw [if_pos c44] at H
                have c44b0 : decide (0 ≤ x7_4) = true := decide_eq_true c44
                clear c44
                obtain ⟨ji45, hji45⟩ : ∃ j_ : Int, (wrap64 (x7_4 - 1)) = j_ := ⟨_, rfl⟩
                replace H : (if 0 ≤ (ji45) then (if (ji45) < ((rd_L3 l0_0 x6_3).length : Int) then (if ((Op.bytesLess (((rd_T32 (rd_L3 l0_0 x6_3) (ji45)).f4).toList) (((rd_T32 (rd_L3 l0_0 x6_3) x7_4).f3).toList)) = true) then (millhandref16_May.l3 k4 x6_3 (wrap64 (x7_4 + 1)) l0_0 a0_1 a0_2 a0_3) else (some false)) else (none)) else (none)) = some r := by first | (rw [hji45] at H; exact H) | (simp only [hji45] at H ⊢; exact H)
                have hji45w : (IntKind.i64.wrap (x7_4 - 1)) = ji45 := (i64_w _).trans hji45
                by_cases c46 : 0 ≤ (ji45)
                ·
                 rw [if_pos c46] at H
                 have c46b0 : decide (0 ≤ (ji45)) = true := decide_eq_true c46
                 clear c46
                 by_cases c47 : (ji45) < ((rd_L3 l0_0 x6_3).length : Int)
                 ·
                  rw [if_pos c47] at H
                  have c47b0 : decide ((ji45) < ((rd_L3 l0_0 x6_3).length : Int)) = true := decide_eq_true c47
                  clear c47
                  by_cases c48 : ((Op.bytesLess (((rd_T32 (rd_L3 l0_0 x6_3) (ji45)).f4).toList) (((rd_T32 (rd_L3 l0_0 x6_3) x7_4).f3).toList)) = true)
                  ·
                   rw [if_pos c48] at H
                   have c48b0 : (Op.bytesLess (((rd_T32 (rd_L3 l0_0 x6_3) (ji45)).f4).toList) (((rd_T32 (rd_L3 l0_0 x6_3) x7_4).f3).toList)) = true := c48
                   clear c48
                   have H' := Aside0.mk H
                   clear H
                   have hcz49_0 : wr.cell? ⟨gb275, 0, none⟩ = some (.slice A0_0 l0_0.length c0_0) := (blk_cell BK275.out 0).trans rfl
                   have hcz49_1 : wr.cell? ⟨gb275, 1, none⟩ = some (.int .i64 a0_1) := (blk_cell BK275.out 1).trans rfl
                   have hcz49_2 : wr.cell? ⟨gb275, 2, none⟩ = some (.int .i64 a0_2) := (blk_cell BK275.out 2).trans rfl
                   have hcz49_3 : wr.cell? ⟨gb275, 3, none⟩ = some (.string a0_3) := (blk_cell BK275.out 3).trans rfl
                   have hfz49_0 := blk_frozen BK275.out 0
                   have hfz49_1 := blk_frozen BK275.out 1
                   have hfz49_2 := blk_frozen BK275.out 2
                   have hfz49_3 := blk_frozen BK275.out 3
                   have p285 : 0 ≤ (x6_3 : Int) := of_decide_eq_true (by first | (with_reducible assumption) | assumption)
                   have q285 : x6_3 < (l0_0.length : Int) := of_decide_eq_true (by first | (with_reducible assumption) | assumption)
                   obtain ⟨ad285, A285_0, c285_0, e285, hx285_0, hl285_0, hi285_0⟩ := at_L3 HR0_0.out x6_3 p285 q285
                   cases e285
                   replace hx285_0 := cl_ HB.out hx285_0
                   have HR285_0 := Aside0.mk hi285_0
                   have HC285_0 := Aside0.mk hl285_0
                   clear hi285_0 hl285_0
                   replace p285 := eq_true p285
                   replace q285 := eq_true q285
                   try go_wp2
                   obtain ⟨BK275, HB⟩ := And.intro (Aside0.mk (blk_drew BK275.out)) (Aside0.mk (below_drew1 HB.out))
                   have p286 : 0 ≤ (x6_3 : Int) := of_decide_eq_true (by first | (with_reducible assumption) | assumption)
                   have q286 : x6_3 < (l0_0.length : Int) := of_decide_eq_true (by first | (with_reducible assumption) | assumption)
                   obtain ⟨ad286, A286_0, c286_0, e286, hx286_0, hl286_0, hi286_0⟩ := at_L3 HR0_0.out x6_3 p286 q286
                   have hw286_0 := hx286_0
                   obtain rfl : ad285 = ad286 := (by injection e286)
                   replace hx286_0 := cl_ HB.out hx286_0
                   have HR286_0 := Aside0.mk hi286_0
                   have HC286_0 := Aside0.mk hl286_0
                   clear hi286_0 hl286_0
                   replace p286 := eq_true p286
                   replace q286 := eq_true q286
                   have p287 : 0 ≤ (x7_4 : Int) := of_decide_eq_true (by first | (with_reducible assumption) | assumption)
                   have q287 : x7_4 < ((rd_L3 l0_0 x6_3).length : Int) := of_decide_eq_true (by first | (with_reducible assumption) | assumption)
                   obtain ⟨ad287, e287, hx287_0, hx287_1, hx287_2, hx287_3, hx287_4⟩ := at_T32 HR286_0.out x7_4 p287 q287
                   have hw287_4 := hx287_4
                   have hw287_3 := hx287_3
                   have hw287_2 := hx287_2
                   have hw287_1 := hx287_1
                   have hw287_0 := hx287_0
                   cases e287
                   replace hx287_0 := cl_ HB.out hx287_0
                   replace hx287_1 := cl_ HB.out hx287_1
                   replace hx287_2 := cl_ HB.out hx287_2
                   replace hx287_3 := cl_ HB.out hx287_3
                   replace hx287_4 := cl_ HB.out hx287_4
                   replace p287 := eq_true p287
                   replace q287 := eq_true q287
                   have p288 : 0 ≤ (x6_3 : Int) := of_decide_eq_true (by first | (with_reducible assumption) | assumption)
                   have q288 : x6_3 < (l0_0.length : Int) := of_decide_eq_true (by first | (with_reducible assumption) | assumption)
                   obtain ⟨ad288, A288_0, c288_0, e288, hx288_0, hl288_0, hi288_0⟩ := at_L3 HR0_0.out x6_3 p288 q288
                   have hw288_0 := hx288_0
                   obtain rfl : ad285 = ad288 := (by injection e288)
                   replace hx288_0 := cl_ HB.out hx288_0
                   have HR288_0 := Aside0.mk hi288_0
                   have HC288_0 := Aside0.mk hl288_0
                   clear hi288_0 hl288_0
                   replace p288 := eq_true p288
                   replace q288 := eq_true q288
                   have ea_ := Option.some.inj (hx286_0.symm.trans hx288_0)
                   injection ea_ with ea_ en_ ec_
                   subst ea_
                   subst ec_
                   clear en_
                   have p289 : 0 ≤ ((ji45) : Int) := of_decide_eq_true (by first | (with_reducible assumption) | assumption)
                   have q289 : (ji45) < ((rd_L3 l0_0 x6_3).length : Int) := of_decide_eq_true (by first | (with_reducible assumption) | assumption)
                   obtain ⟨ad289, e289, hx289_0, hx289_1, hx289_2, hx289_3, hx289_4⟩ := at_T32 HR288_0.out (ji45) p289 q289
                   have hw289_4 := hx289_4
                   have hw289_3 := hx289_3
                   have hw289_2 := hx289_2
                   have hw289_1 := hx289_1
                   have hw289_0 := hx289_0
                   cases e289
                   replace hx289_0 := cl_ HB.out hx289_0
                   replace hx289_1 := cl_ HB.out hx289_1
                   replace hx289_2 := cl_ HB.out hx289_2
                   replace hx289_3 := cl_ HB.out hx289_3
                   replace hx289_4 := cl_ HB.out hx289_4
                   replace p289 := eq_true p289
                   replace q289 := eq_true q289
                   refine start_ (n := 20) (S := fun w' => w'.cell? ⟨gb275, 0, none⟩ = some (.slice (some ad285) l0_0.length c0_0) ∧ w'.cell? ⟨gb275, 1, none⟩ = some (.int .i64 a0_1) ∧ w'.cell? ⟨gb275, 2, none⟩ = some (.int .i64 a0_2) ∧ w'.cell? ⟨gb275, 3, none⟩ = some (.string a0_3) ∧ w'.cell? (ad285.add (x6_3).toNat) = some (.slice (some ad287) (rd_L3 l0_0 x6_3).length c286_0) ∧ w'.cell? (ad287.add ((x7_4).toNat * 5)) = some (.string ((rd_T32 (rd_L3 l0_0 x6_3) x7_4).f0)) ∧ w'.cell? ⟨(ad287.add ((x7_4).toNat * 5)).block, (ad287.add ((x7_4).toNat * 5)).off + 1, none⟩ = some (.int .i64 ((rd_T32 (rd_L3 l0_0 x6_3) x7_4).f1)) ∧ w'.cell? ⟨(ad287.add ((x7_4).toNat * 5)).block, (ad287.add ((x7_4).toNat * 5)).off + 2, none⟩ = some (.int .i64 ((rd_T32 (rd_L3 l0_0 x6_3) x7_4).f2)) ∧ w'.cell? ⟨(ad287.add ((x7_4).toNat * 5)).block, (ad287.add ((x7_4).toNat * 5)).off + 3, none⟩ = some (.string ((rd_T32 (rd_L3 l0_0 x6_3) x7_4).f3)) ∧ w'.cell? ⟨(ad287.add ((x7_4).toNat * 5)).block, (ad287.add ((x7_4).toNat * 5)).off + 4, none⟩ = some (.string ((rd_T32 (rd_L3 l0_0 x6_3) x7_4).f4)) ∧ w'.cell? (ad285.add (x6_3).toNat) = some (.slice (some ad287) (rd_L3 l0_0 x6_3).length c286_0) ∧ w'.cell? (ad287.add (((ji45)).toNat * 5)) = some (.string ((rd_T32 (rd_L3 l0_0 x6_3) (ji45)).f0)) ∧ w'.cell? ⟨(ad287.add (((ji45)).toNat * 5)).block, (ad287.add (((ji45)).toNat * 5)).off + 1, none⟩ = some (.int .i64 ((rd_T32 (rd_L3 l0_0 x6_3) (ji45)).f1)) ∧ w'.cell? ⟨(ad287.add (((ji45)).toNat * 5)).block, (ad287.add (((ji45)).toNat * 5)).off + 2, none⟩ = some (.int .i64 ((rd_T32 (rd_L3 l0_0 x6_3) (ji45)).f2)) ∧ w'.cell? ⟨(ad287.add (((ji45)).toNat * 5)).block, (ad287.add (((ji45)).toNat * 5)).off + 3, none⟩ = some (.string ((rd_T32 (rd_L3 l0_0 x6_3) (ji45)).f3)) ∧ w'.cell? ⟨(ad287.add (((ji45)).toNat * 5)).block, (ad287.add (((ji45)).toNat * 5)).off + 4, none⟩ = some (.string ((rd_T32 (rd_L3 l0_0 x6_3) (ji45)).f4))) (ds := []) (b_ 20 0) (by kernel_rfl) rfl rfl ⟨(blk_cell BK275.out 0).trans rfl, (blk_cell BK275.out 1).trans rfl, (blk_cell BK275.out 2).trans rfl, (blk_cell BK275.out 3).trans rfl, (cl_ HB.out hw286_0), (cl_ HB.out hw287_0), (cl_ HB.out hw287_1), (cl_ HB.out hw287_2), (cl_ HB.out hw287_3), (cl_ HB.out hw287_4), (cl_ HB.out hw288_0), (cl_ HB.out hw289_0), (cl_ HB.out hw289_1), (cl_ HB.out hw289_2), (cl_ HB.out hw289_3), (cl_ HB.out hw289_4)⟩ (fun hHeld => ?_); refine with_tabW millhandref16_May.tab20 millhandref16_May.bits20 (fun HT_ HW_ => ?_)
                   generalize wr.drew = w50 at BK275 HB HR286_0 HR288_0 hx286_0 hx287_0 hx287_1 hx287_2 hx287_3 hx287_4 hx288_0 hx289_0 hx289_1 hx289_2 hx289_3 hx289_4 hHeld ⊢
                   refine pA_ 0 92 ?_ (b_ 20 1) (any_of HT_.out (by kernel_rfl)) rfl rfl (fun _ _ _ h => h) (by rfl) ?_ ?_ ?_ ?_
                   rotate_left
                   ·
                    intro w'
                    go_simp
                    with_reducible rfl
                   rotate_left
                   ·
                    simp only [Act.put, sa_, s0_, s1_, i64_w, i32_w]
                    rfl
                   refine pA_ 2 94 ?_ (b_ 20 5) (any_of HT_.out (by kernel_rfl)) rfl rfl (fun _ _ _ h => h) (by rfl) ?_ ?_ ?_ ?_
                   rotate_left
                   ·
                    intro w'
                    go_simp
                    with_reducible rfl
                   rotate_left
                   ·
                    simp only [Act.put, sa_, s0_, s1_, i64_w, i32_w]
                    rfl
                   refine pA_ 5 97 ?_ (b_ 20 37) (any_of HT_.out (by kernel_rfl)) rfl rfl (fun _ _ _ h => h) (by rfl) ?_ ?_ ?_ ?_
                   rotate_left
                   ·
                    intro w'
                    go_simp
                    with_reducible rfl
                   rotate_left
                   ·
                    simp only [Act.put, sa_, s0_, s1_, i64_w, i32_w]
                    rfl
                   refine pA_ 9 101 ?_ (b_ 20 549) (any_of HT_.out (by kernel_rfl)) rfl rfl (fun _ _ _ h => h) (by rfl) ?_ ?_ ?_ ?_
                   rotate_left
                   ·
                    intro w'
                    go_simp
                    with_reducible rfl
                   rotate_left
                   ·
                    simp only [Act.put, sa_, s0_, s1_, i64_w, i32_w]
                    rfl
                   refine pA_ 11 103 ?_ (b_ 20 2597) (any_of HT_.out (by kernel_rfl)) rfl rfl (fun _ _ _ h => h) (by rfl) ?_ ?_ ?_ ?_
                   rotate_left
                   ·
                    intro w'
                    go_simp
                    with_reducible rfl
                   rotate_left
                   ·
                    simp only [Act.put, sa_, s0_, s1_, i64_w, i32_w]
                    rfl
                   refine pA_ 14 106 ?_ (b_ 20 18981) (any_of HT_.out (by kernel_rfl)) rfl rfl (fun _ _ _ h => h) (by rfl) ?_ ?_ ?_ ?_
                   rotate_left
                   ·
                    intro w'
                    go_simp
                    with_reducible rfl
                   rotate_left
                   ·
                    simp only [Act.put, sa_, s0_, s1_, i64_w, i32_w]
                    rfl
                   refine pA_ 15 107 ?_ (b_ 20 51749) (any_of HT_.out (by kernel_rfl)) rfl rfl (fun _ _ _ h => h) (by rfl) ?_ ?_ ?_ ?_
                   rotate_left
                   ·
                    intro w'
                    go_simp
                    with_reducible rfl
                   rotate_left
                   ·
                    simp only [Act.put, sa_, s0_, s1_, i64_w, i32_w]
                    rfl
                   refine tA_ 1 93 ?_ (b_ 20 51751) (take_ofW HT_.out HW_.out (by kernel_rfl)) rfl rfl (fun _ _ _ h => h) (by rfl) ?_ hHeld ?_ ?_ ?_
                   rotate_left
                   ·
                    rintro w' ⟨s0, s1, s2, s3, s4, s5, s6, s7, s8, s9, s10, s11, s12, s13, s14, s15⟩
                    go_simp
                    with_reducible rfl
                   rotate_left
                   ·
                    simp only [Act.put, sa_, s0_, s1_, i64_w, i32_w]
                    rfl
                   refine pA_ 3 95 ?_ (b_ 20 51759) (any_of HT_.out (by kernel_rfl)) rfl rfl (fun _ _ _ h => h) (by rfl) ?_ ?_ ?_ ?_
                   rotate_left
                   ·
                    intro w'
                    go_simp
                    with_reducible rfl
                   rotate_left
                   ·
                    simp only [Act.put, sa_, s0_, s1_, i64_w, i32_w]
                    rfl
                   refine tA_ 4 96 ?_ (b_ 20 51775) (take_ofW HT_.out HW_.out (by kernel_rfl)) rfl rfl (fun _ _ _ h => h) (by rfl) ?_ hHeld ?_ ?_ ?_
                   rotate_left
                   ·
                    rintro w' ⟨s0, s1, s2, s3, s4, s5, s6, s7, s8, s9, s10, s11, s12, s13, s14, s15⟩
                    go_simp
                    with_reducible rfl
                   rotate_left
                   ·
                    simp only [Act.put, sa_, s0_, s1_, i64_w, i32_w]
                    rfl
                   refine pA_ 6 98 ?_ (b_ 20 51839) (any_of HT_.out (by kernel_rfl)) rfl rfl (fun _ _ _ h => h) (by rfl) ?_ ?_ ?_ ?_
                   rotate_left
                   ·
                    intro w'
                    go_simp
                    with_reducible rfl
                   rotate_left
                   ·
                    simp only [Act.put, sa_, s0_, s1_, i64_w, i32_w]
                    rfl
                   refine pA_ 7 99 ?_ (b_ 20 51967) (any_of HT_.out (by kernel_rfl)) rfl rfl (fun _ _ _ h => h) (by rfl) ?_ ?_ ?_ ?_
                   rotate_left
                   ·
                    intro w'
                    go_simp
                    with_reducible rfl
                   rotate_left
                   ·
                    simp only [Act.put, sa_, s0_, s1_, i64_w, i32_w]
                    rfl
                   refine tA_ 8 100 ?_ (b_ 20 52223) (take_ofW HT_.out HW_.out (by kernel_rfl)) rfl rfl (fun _ _ _ h => h) (by rfl) ?_ hHeld ?_ ?_ ?_
                   rotate_left
                   ·
                    rintro w' ⟨s0, s1, s2, s3, s4, s5, s6, s7, s8, s9, s10, s11, s12, s13, s14, s15⟩
                    go_simp
                    with_reducible rfl
                   rotate_left
                   ·
                    simp only [Act.put, sa_, s0_, s1_, i64_w, i32_w]
                    rfl
                   refine tA_ 10 102 ?_ (b_ 20 53247) (take_ofW HT_.out HW_.out (by kernel_rfl)) rfl rfl (fun _ _ _ h => h) (by rfl) ?_ hHeld ?_ ?_ ?_
                   rotate_left
                   ·
                    rintro w' ⟨s0, s1, s2, s3, s4, s5, s6, s7, s8, s9, s10, s11, s12, s13, s14, s15⟩
                    go_simp
                    with_reducible rfl
                   rotate_left
                   ·
                    simp only [Act.put, sa_, s0_, s1_, i64_w, i32_w]
                    rfl
                   refine pA_ 12 104 ?_ (b_ 20 57343) (any_of HT_.out (by kernel_rfl)) rfl rfl (fun _ _ _ h => h) (by rfl) ?_ ?_ ?_ ?_
                   rotate_left
                   ·
                    intro w'
                    go_simp
                    with_reducible rfl
                   rotate_left
                   ·
                    simp only [Act.put, sa_, s0_, s1_, i64_w, i32_w]
                    rfl
                   refine tA_ 13 105 ?_ (b_ 20 65535) (take_ofW HT_.out HW_.out (by kernel_rfl)) rfl rfl (fun _ _ _ h => h) (by rfl) ?_ hHeld ?_ ?_ ?_
                   rotate_left
                   ·
                    rintro w' ⟨s0, s1, s2, s3, s4, s5, s6, s7, s8, s9, s10, s11, s12, s13, s14, s15⟩
                    go_simp
                    with_reducible rfl
                   rotate_left
                   ·
                    simp only [Act.put, sa_, s0_, s1_, i64_w, i32_w]
                    rfl
                   refine pA_ 16 108 ?_ (b_ 20 131071) (any_of HT_.out (by kernel_rfl)) rfl rfl (fun _ _ _ h => h) (by rfl) ?_ ?_ ?_ ?_
                   rotate_left
                   ·
                    intro w'
                    go_simp
                    with_reducible rfl
                   rotate_left
                   ·
                    simp only [Act.put, sa_, s0_, s1_, i64_w, i32_w]
                    rfl
                   refine pA_ 17 109 ?_ (b_ 20 262143) (any_of HT_.out (by kernel_rfl)) rfl rfl (fun _ _ _ h => h) (by rfl) ?_ ?_ ?_ ?_
                   rotate_left
                   ·
                    intro w'
                    go_simp
                    with_reducible rfl
                   rotate_left
                   ·
                    simp only [Act.put, sa_, s0_, s1_, i64_w, i32_w]
                    rfl
                   refine tA_ 18 110 ?_ (b_ 20 524287) (take_ofW HT_.out HW_.out (by kernel_rfl)) rfl rfl (fun _ _ _ h => h) (by rfl) ?_ hHeld ?_ ?_ ?_
                   rotate_left
                   ·
                    rintro w' ⟨s0, s1, s2, s3, s4, s5, s6, s7, s8, s9, s10, s11, s12, s13, s14, s15⟩
                    go_simp
                    with_reducible rfl
                   rotate_left
                   ·
                    simp only [Act.put, sa_, s0_, s1_, i64_w, i32_w]
                    rfl
                   refine pA_ 19 111 ?_ (b_ 20 1048575) (any_of HT_.out (by kernel_rfl)) rfl rfl (fun _ _ _ h => h) (by rfl) ?_ ?_ ?_ ?_
                   rotate_left
                   ·
                    intro w'
                    go_simp
                    with_reducible rfl
                   rotate_left
                   ·
                    simp only [Act.put, sa_, s0_, s1_, i64_w, i32_w]
                    rfl
                   refine done_ (done_of HT_.out (by kernel_rfl)) ?_
                   try go_wp2
                   go_roundg k4
                   case measure => have := HJ1.out; have := HK2.out; have := HK3.out; have := HK4.out; omega
                   case rel => exact ⟨(wrap64 (x7_4 + 1)), (by first | rfl | (simp; done) | (simp [*]; done)), H', ⟨by have := HJ1.out; have := HK2.out; have := HK3.out; have := HK4.out; omega⟩, ⟨by (with_reducible repeat (first | refine blk_drewN ?_ _ | refine blk_drew ?_ | refine blk_alloc ?_ _)); exact BK275.out⟩, ⟨by repeat (first | (with_reducible first | exact HB.out | apply below_alloc | apply pw_below_drewN | apply below_drew1 | refine below_set ?_ GE275.out) | exact HB.out)⟩⟩
                  ·
                   rw [if_neg c48] at H
                   have c48b0 : (Op.bytesLess (((rd_T32 (rd_L3 l0_0 x6_3) (ji45)).f4).toList) (((rd_T32 (rd_L3 l0_0 x6_3) x7_4).f3).toList)) = false := by simpa using c48
                   clear c48
                   obtain rfl := Option.some.inj H
                   have hcz51_0 : wr.cell? ⟨gb275, 0, none⟩ = some (.slice A0_0 l0_0.length c0_0) := (blk_cell BK275.out 0).trans rfl
                   have hcz51_1 : wr.cell? ⟨gb275, 1, none⟩ = some (.int .i64 a0_1) := (blk_cell BK275.out 1).trans rfl
                   have hcz51_2 : wr.cell? ⟨gb275, 2, none⟩ = some (.int .i64 a0_2) := (blk_cell BK275.out 2).trans rfl
                   have hcz51_3 : wr.cell? ⟨gb275, 3, none⟩ = some (.string a0_3) := (blk_cell BK275.out 3).trans rfl
                   have hfz51_0 := blk_frozen BK275.out 0
                   have hfz51_1 := blk_frozen BK275.out 1
                   have hfz51_2 := blk_frozen BK275.out 2
                   have hfz51_3 := blk_frozen BK275.out 3
                   have p285 : 0 ≤ (x6_3 : Int) := of_decide_eq_true (by first | (with_reducible assumption) | assumption)
                   have q285 : x6_3 < (l0_0.length : Int) := of_decide_eq_true (by first | (with_reducible assumption) | assumption)
                   obtain ⟨ad285, A285_0, c285_0, e285, hx285_0, hl285_0, hi285_0⟩ := at_L3 HR0_0.out x6_3 p285 q285
                   cases e285
                   replace hx285_0 := cl_ HB.out hx285_0
                   have HR285_0 := Aside0.mk hi285_0
                   have HC285_0 := Aside0.mk hl285_0
                   clear hi285_0 hl285_0
                   replace p285 := eq_true p285
                   replace q285 := eq_true q285
                   try go_wp2
                   obtain ⟨BK275, HB⟩ := And.intro (Aside0.mk (blk_drew BK275.out)) (Aside0.mk (below_drew1 HB.out))
                   have p286 : 0 ≤ (x6_3 : Int) := of_decide_eq_true (by first | (with_reducible assumption) | assumption)
                   have q286 : x6_3 < (l0_0.length : Int) := of_decide_eq_true (by first | (with_reducible assumption) | assumption)
                   obtain ⟨ad286, A286_0, c286_0, e286, hx286_0, hl286_0, hi286_0⟩ := at_L3 HR0_0.out x6_3 p286 q286
                   have hw286_0 := hx286_0
                   obtain rfl : ad285 = ad286 := (by injection e286)
                   replace hx286_0 := cl_ HB.out hx286_0
                   have HR286_0 := Aside0.mk hi286_0
                   have HC286_0 := Aside0.mk hl286_0
                   clear hi286_0 hl286_0
                   replace p286 := eq_true p286
                   replace q286 := eq_true q286
                   have p287 : 0 ≤ (x7_4 : Int) := of_decide_eq_true (by first | (with_reducible assumption) | assumption)
                   have q287 : x7_4 < ((rd_L3 l0_0 x6_3).length : Int) := of_decide_eq_true (by first | (with_reducible assumption) | assumption)
                   obtain ⟨ad287, e287, hx287_0, hx287_1, hx287_2, hx287_3, hx287_4⟩ := at_T32 HR286_0.out x7_4 p287 q287
                   have hw287_4 := hx287_4
                   have hw287_3 := hx287_3
                   have hw287_2 := hx287_2
                   have hw287_1 := hx287_1
                   have hw287_0 := hx287_0
                   cases e287
                   replace hx287_0 := cl_ HB.out hx287_0
                   replace hx287_1 := cl_ HB.out hx287_1
                   replace hx287_2 := cl_ HB.out hx287_2
                   replace hx287_3 := cl_ HB.out hx287_3
                   replace hx287_4 := cl_ HB.out hx287_4
                   replace p287 := eq_true p287
                   replace q287 := eq_true q287
                   have p288 : 0 ≤ (x6_3 : Int) := of_decide_eq_true (by first | (with_reducible assumption) | assumption)
                   have q288 : x6_3 < (l0_0.length : Int) := of_decide_eq_true (by first | (with_reducible assumption) | assumption)
                   obtain ⟨ad288, A288_0, c288_0, e288, hx288_0, hl288_0, hi288_0⟩ := at_L3 HR0_0.out x6_3 p288 q288
                   have hw288_0 := hx288_0
                   obtain rfl : ad285 = ad288 := (by injection e288)
                   replace hx288_0 := cl_ HB.out hx288_0
                   have HR288_0 := Aside0.mk hi288_0
                   have HC288_0 := Aside0.mk hl288_0
                   clear hi288_0 hl288_0
                   replace p288 := eq_true p288
                   replace q288 := eq_true q288
                   have ea_ := Option.some.inj (hx286_0.symm.trans hx288_0)
                   injection ea_ with ea_ en_ ec_
                   subst ea_
                   subst ec_
                   clear en_
                   have p289 : 0 ≤ ((ji45) : Int) := of_decide_eq_true (by first | (with_reducible assumption) | assumption)
                   have q289 : (ji45) < ((rd_L3 l0_0 x6_3).length : Int) := of_decide_eq_true (by first | (with_reducible assumption) | assumption)
                   obtain ⟨ad289, e289, hx289_0, hx289_1, hx289_2, hx289_3, hx289_4⟩ := at_T32 HR288_0.out (ji45) p289 q289
                   have hw289_4 := hx289_4
                   have hw289_3 := hx289_3
                   have hw289_2 := hx289_2
                   have hw289_1 := hx289_1
                   have hw289_0 := hx289_0
                   cases e289
                   replace hx289_0 := cl_ HB.out hx289_0
                   replace hx289_1 := cl_ HB.out hx289_1
                   replace hx289_2 := cl_ HB.out hx289_2
                   replace hx289_3 := cl_ HB.out hx289_3
                   replace hx289_4 := cl_ HB.out hx289_4
                   replace p289 := eq_true p289
                   replace q289 := eq_true q289
                   refine start_ (n := 20) (S := fun w' => w'.cell? ⟨gb275, 0, none⟩ = some (.slice (some ad285) l0_0.length c0_0) ∧ w'.cell? ⟨gb275, 1, none⟩ = some (.int .i64 a0_1) ∧ w'.cell? ⟨gb275, 2, none⟩ = some (.int .i64 a0_2) ∧ w'.cell? ⟨gb275, 3, none⟩ = some (.string a0_3) ∧ w'.cell? (ad285.add (x6_3).toNat) = some (.slice (some ad287) (rd_L3 l0_0 x6_3).length c286_0) ∧ w'.cell? (ad287.add ((x7_4).toNat * 5)) = some (.string ((rd_T32 (rd_L3 l0_0 x6_3) x7_4).f0)) ∧ w'.cell? ⟨(ad287.add ((x7_4).toNat * 5)).block, (ad287.add ((x7_4).toNat * 5)).off + 1, none⟩ = some (.int .i64 ((rd_T32 (rd_L3 l0_0 x6_3) x7_4).f1)) ∧ w'.cell? ⟨(ad287.add ((x7_4).toNat * 5)).block, (ad287.add ((x7_4).toNat * 5)).off + 2, none⟩ = some (.int .i64 ((rd_T32 (rd_L3 l0_0 x6_3) x7_4).f2)) ∧ w'.cell? ⟨(ad287.add ((x7_4).toNat * 5)).block, (ad287.add ((x7_4).toNat * 5)).off + 3, none⟩ = some (.string ((rd_T32 (rd_L3 l0_0 x6_3) x7_4).f3)) ∧ w'.cell? ⟨(ad287.add ((x7_4).toNat * 5)).block, (ad287.add ((x7_4).toNat * 5)).off + 4, none⟩ = some (.string ((rd_T32 (rd_L3 l0_0 x6_3) x7_4).f4)) ∧ w'.cell? (ad285.add (x6_3).toNat) = some (.slice (some ad287) (rd_L3 l0_0 x6_3).length c286_0) ∧ w'.cell? (ad287.add (((ji45)).toNat * 5)) = some (.string ((rd_T32 (rd_L3 l0_0 x6_3) (ji45)).f0)) ∧ w'.cell? ⟨(ad287.add (((ji45)).toNat * 5)).block, (ad287.add (((ji45)).toNat * 5)).off + 1, none⟩ = some (.int .i64 ((rd_T32 (rd_L3 l0_0 x6_3) (ji45)).f1)) ∧ w'.cell? ⟨(ad287.add (((ji45)).toNat * 5)).block, (ad287.add (((ji45)).toNat * 5)).off + 2, none⟩ = some (.int .i64 ((rd_T32 (rd_L3 l0_0 x6_3) (ji45)).f2)) ∧ w'.cell? ⟨(ad287.add (((ji45)).toNat * 5)).block, (ad287.add (((ji45)).toNat * 5)).off + 3, none⟩ = some (.string ((rd_T32 (rd_L3 l0_0 x6_3) (ji45)).f3)) ∧ w'.cell? ⟨(ad287.add (((ji45)).toNat * 5)).block, (ad287.add (((ji45)).toNat * 5)).off + 4, none⟩ = some (.string ((rd_T32 (rd_L3 l0_0 x6_3) (ji45)).f4))) (ds := []) (b_ 20 0) (by kernel_rfl) rfl rfl ⟨(blk_cell BK275.out 0).trans rfl, (blk_cell BK275.out 1).trans rfl, (blk_cell BK275.out 2).trans rfl, (blk_cell BK275.out 3).trans rfl, (cl_ HB.out hw286_0), (cl_ HB.out hw287_0), (cl_ HB.out hw287_1), (cl_ HB.out hw287_2), (cl_ HB.out hw287_3), (cl_ HB.out hw287_4), (cl_ HB.out hw288_0), (cl_ HB.out hw289_0), (cl_ HB.out hw289_1), (cl_ HB.out hw289_2), (cl_ HB.out hw289_3), (cl_ HB.out hw289_4)⟩ (fun hHeld => ?_); refine with_tabW millhandref16_May.tab20 millhandref16_May.bits20 (fun HT_ HW_ => ?_)
                   generalize wr.drew = w52 at BK275 HB HR286_0 HR288_0 hx286_0 hx287_0 hx287_1 hx287_2 hx287_3 hx287_4 hx288_0 hx289_0 hx289_1 hx289_2 hx289_3 hx289_4 hHeld ⊢
                   refine pA_ 0 92 ?_ (b_ 20 1) (any_of HT_.out (by kernel_rfl)) rfl rfl (fun _ _ _ h => h) (by rfl) ?_ ?_ ?_ ?_
                   rotate_left
                   ·
                    intro w'
                    go_simp
                    with_reducible rfl
                   rotate_left
                   ·
                    simp only [Act.put, sa_, s0_, s1_, i64_w, i32_w]
                    rfl
                   refine pA_ 2 94 ?_ (b_ 20 5) (any_of HT_.out (by kernel_rfl)) rfl rfl (fun _ _ _ h => h) (by rfl) ?_ ?_ ?_ ?_
                   rotate_left
                   ·
                    intro w'
                    go_simp
                    with_reducible rfl
                   rotate_left
                   ·
                    simp only [Act.put, sa_, s0_, s1_, i64_w, i32_w]
                    rfl
                   refine pA_ 5 97 ?_ (b_ 20 37) (any_of HT_.out (by kernel_rfl)) rfl rfl (fun _ _ _ h => h) (by rfl) ?_ ?_ ?_ ?_
                   rotate_left
                   ·
                    intro w'
                    go_simp
                    with_reducible rfl
                   rotate_left
                   ·
                    simp only [Act.put, sa_, s0_, s1_, i64_w, i32_w]
                    rfl
                   refine pA_ 9 101 ?_ (b_ 20 549) (any_of HT_.out (by kernel_rfl)) rfl rfl (fun _ _ _ h => h) (by rfl) ?_ ?_ ?_ ?_
                   rotate_left
                   ·
                    intro w'
                    go_simp
                    with_reducible rfl
                   rotate_left
                   ·
                    simp only [Act.put, sa_, s0_, s1_, i64_w, i32_w]
                    rfl
                   refine pA_ 11 103 ?_ (b_ 20 2597) (any_of HT_.out (by kernel_rfl)) rfl rfl (fun _ _ _ h => h) (by rfl) ?_ ?_ ?_ ?_
                   rotate_left
                   ·
                    intro w'
                    go_simp
                    with_reducible rfl
                   rotate_left
                   ·
                    simp only [Act.put, sa_, s0_, s1_, i64_w, i32_w]
                    rfl
                   refine pA_ 14 106 ?_ (b_ 20 18981) (any_of HT_.out (by kernel_rfl)) rfl rfl (fun _ _ _ h => h) (by rfl) ?_ ?_ ?_ ?_
                   rotate_left
                   ·
                    intro w'
                    go_simp
                    with_reducible rfl
                   rotate_left
                   ·
                    simp only [Act.put, sa_, s0_, s1_, i64_w, i32_w]
                    rfl
                   refine pA_ 15 107 ?_ (b_ 20 51749) (any_of HT_.out (by kernel_rfl)) rfl rfl (fun _ _ _ h => h) (by rfl) ?_ ?_ ?_ ?_
                   rotate_left
                   ·
                    intro w'
                    go_simp
                    with_reducible rfl
                   rotate_left
                   ·
                    simp only [Act.put, sa_, s0_, s1_, i64_w, i32_w]
                    rfl
                   refine tA_ 1 93 ?_ (b_ 20 51751) (take_ofW HT_.out HW_.out (by kernel_rfl)) rfl rfl (fun _ _ _ h => h) (by rfl) ?_ hHeld ?_ ?_ ?_
                   rotate_left
                   ·
                    rintro w' ⟨s0, s1, s2, s3, s4, s5, s6, s7, s8, s9, s10, s11, s12, s13, s14, s15⟩
                    go_simp
                    with_reducible rfl
                   rotate_left
                   ·
                    simp only [Act.put, sa_, s0_, s1_, i64_w, i32_w]
                    rfl
                   refine pA_ 3 95 ?_ (b_ 20 51759) (any_of HT_.out (by kernel_rfl)) rfl rfl (fun _ _ _ h => h) (by rfl) ?_ ?_ ?_ ?_
                   rotate_left
                   ·
                    intro w'
                    go_simp
                    with_reducible rfl
                   rotate_left
                   ·
                    simp only [Act.put, sa_, s0_, s1_, i64_w, i32_w]
                    rfl
                   refine tA_ 4 96 ?_ (b_ 20 51775) (take_ofW HT_.out HW_.out (by kernel_rfl)) rfl rfl (fun _ _ _ h => h) (by rfl) ?_ hHeld ?_ ?_ ?_
                   rotate_left
                   ·
                    rintro w' ⟨s0, s1, s2, s3, s4, s5, s6, s7, s8, s9, s10, s11, s12, s13, s14, s15⟩
                    go_simp
                    with_reducible rfl
                   rotate_left
                   ·
                    simp only [Act.put, sa_, s0_, s1_, i64_w, i32_w]
                    rfl
                   refine pA_ 6 98 ?_ (b_ 20 51839) (any_of HT_.out (by kernel_rfl)) rfl rfl (fun _ _ _ h => h) (by rfl) ?_ ?_ ?_ ?_
                   rotate_left
                   ·
                    intro w'
                    go_simp
                    with_reducible rfl
                   rotate_left
                   ·
                    simp only [Act.put, sa_, s0_, s1_, i64_w, i32_w]
                    rfl
                   refine pA_ 7 99 ?_ (b_ 20 51967) (any_of HT_.out (by kernel_rfl)) rfl rfl (fun _ _ _ h => h) (by rfl) ?_ ?_ ?_ ?_
                   rotate_left
                   ·
                    intro w'
                    go_simp
                    with_reducible rfl
                   rotate_left
                   ·
                    simp only [Act.put, sa_, s0_, s1_, i64_w, i32_w]
                    rfl
                   refine tA_ 8 100 ?_ (b_ 20 52223) (take_ofW HT_.out HW_.out (by kernel_rfl)) rfl rfl (fun _ _ _ h => h) (by rfl) ?_ hHeld ?_ ?_ ?_
                   rotate_left
                   ·
                    rintro w' ⟨s0, s1, s2, s3, s4, s5, s6, s7, s8, s9, s10, s11, s12, s13, s14, s15⟩
                    go_simp
                    with_reducible rfl
                   rotate_left
                   ·
                    simp only [Act.put, sa_, s0_, s1_, i64_w, i32_w]
                    rfl
                   refine tA_ 10 102 ?_ (b_ 20 53247) (take_ofW HT_.out HW_.out (by kernel_rfl)) rfl rfl (fun _ _ _ h => h) (by rfl) ?_ hHeld ?_ ?_ ?_
                   rotate_left
                   ·
                    rintro w' ⟨s0, s1, s2, s3, s4, s5, s6, s7, s8, s9, s10, s11, s12, s13, s14, s15⟩
                    go_simp
                    with_reducible rfl
                   rotate_left
                   ·
                    simp only [Act.put, sa_, s0_, s1_, i64_w, i32_w]
                    rfl
                   refine pA_ 12 104 ?_ (b_ 20 57343) (any_of HT_.out (by kernel_rfl)) rfl rfl (fun _ _ _ h => h) (by rfl) ?_ ?_ ?_ ?_
                   rotate_left
                   ·
                    intro w'
                    go_simp
                    with_reducible rfl
                   rotate_left
                   ·
                    simp only [Act.put, sa_, s0_, s1_, i64_w, i32_w]
                    rfl
                   refine tA_ 13 105 ?_ (b_ 20 65535) (take_ofW HT_.out HW_.out (by kernel_rfl)) rfl rfl (fun _ _ _ h => h) (by rfl) ?_ hHeld ?_ ?_ ?_
                   rotate_left
                   ·
                    rintro w' ⟨s0, s1, s2, s3, s4, s5, s6, s7, s8, s9, s10, s11, s12, s13, s14, s15⟩
                    go_simp
                    with_reducible rfl
                   rotate_left
                   ·
                    simp only [Act.put, sa_, s0_, s1_, i64_w, i32_w]
                    rfl
                   refine pA_ 16 108 ?_ (b_ 20 131071) (any_of HT_.out (by kernel_rfl)) rfl rfl (fun _ _ _ h => h) (by rfl) ?_ ?_ ?_ ?_
                   rotate_left
                   ·
                    intro w'
                    go_simp
                    with_reducible rfl
                   rotate_left
                   ·
                    simp only [Act.put, sa_, s0_, s1_, i64_w, i32_w]
                    rfl
                   refine pA_ 17 109 ?_ (b_ 20 262143) (any_of HT_.out (by kernel_rfl)) rfl rfl (fun _ _ _ h => h) (by rfl) ?_ ?_ ?_ ?_
                   rotate_left
                   ·
                    intro w'
                    go_simp
                    with_reducible rfl
                   rotate_left
                   ·
                    simp only [Act.put, sa_, s0_, s1_, i64_w, i32_w]
                    rfl
                   refine tA_ 18 110 ?_ (b_ 20 524287) (take_ofW HT_.out HW_.out (by kernel_rfl)) rfl rfl (fun _ _ _ h => h) (by rfl) ?_ hHeld ?_ ?_ ?_
                   rotate_left
                   ·
                    rintro w' ⟨s0, s1, s2, s3, s4, s5, s6, s7, s8, s9, s10, s11, s12, s13, s14, s15⟩
                    go_simp
                    with_reducible rfl
                   rotate_left
                   ·
                    simp only [Act.put, sa_, s0_, s1_, i64_w, i32_w]
                    rfl
                   refine pA_ 19 111 ?_ (b_ 20 1048575) (any_of HT_.out (by kernel_rfl)) rfl rfl (fun _ _ _ h => h) (by rfl) ?_ ?_ ?_ ?_
                   rotate_left
                   ·
                    intro w'
                    go_simp
                    with_reducible rfl
                   rotate_left
                   ·
                    simp only [Act.put, sa_, s0_, s1_, i64_w, i32_w]
                    rfl
                   refine done_ (done_of HT_.out (by kernel_rfl)) ?_
                   try go_wp2
                   go_ret
                   exact ⟨by first | rfl | (simp [errW_none, errW_some] <;> rfl) | (simp only [← hji45]; first | rfl | (simp [errW_none, errW_some] <;> rfl)) | (simp [*, errW_none, errW_some] <;> rfl) | exact ret_ie _ | (simp [*, errW_none, errW_some, bne]; done), by repeat (first | (with_reducible first | exact HB.out | apply below_alloc | apply pw_below_drewN | apply below_drew1 | refine below_set ?_ GE275.out) | exact HB.out)⟩
                 ·
                  rw [if_neg c47] at H
                  exact absurd H (by simp)
                ·
                 rw [if_neg c46] at H
                 exact absurd H (by simp)
               ·
                rw [if_neg c44] at H
                exact absurd H (by simp)
              ·
               rw [if_neg c43] at H
               have c43b0 : decide (x7_4 < ((rd_L3 l0_0 x6_3).length : Int)) = false := decide_eq_false c43
               clear c43
               have H' := Aside0.mk H
               clear H
               have hcz53_0 : wr.cell? ⟨gb275, 0, none⟩ = some (.slice A0_0 l0_0.length c0_0) := (blk_cell BK275.out 0).trans rfl
               have hcz53_1 : wr.cell? ⟨gb275, 1, none⟩ = some (.int .i64 a0_1) := (blk_cell BK275.out 1).trans rfl
               have hcz53_2 : wr.cell? ⟨gb275, 2, none⟩ = some (.int .i64 a0_2) := (blk_cell BK275.out 2).trans rfl
               have hcz53_3 : wr.cell? ⟨gb275, 3, none⟩ = some (.string a0_3) := (blk_cell BK275.out 3).trans rfl
               have hfz53_0 := blk_frozen BK275.out 0
               have hfz53_1 := blk_frozen BK275.out 1
               have hfz53_2 := blk_frozen BK275.out 2
               have hfz53_3 := blk_frozen BK275.out 3
               have p285 : 0 ≤ (x6_3 : Int) := of_decide_eq_true (by first | (with_reducible assumption) | assumption)
               have q285 : x6_3 < (l0_0.length : Int) := of_decide_eq_true (by first | (with_reducible assumption) | assumption)
               obtain ⟨ad285, A285_0, c285_0, e285, hx285_0, hl285_0, hi285_0⟩ := at_L3 HR0_0.out x6_3 p285 q285
               cases e285
               replace hx285_0 := cl_ HB.out hx285_0
               have HR285_0 := Aside0.mk hi285_0
               have HC285_0 := Aside0.mk hl285_0
               clear hi285_0 hl285_0
               replace p285 := eq_true p285
               replace q285 := eq_true q285
               go_wp2
               go_roundg k4
               case measure => have := HJ1.out; have := HK2.out; have := HK3.out; have := HK4.out; omega
               case rel => exact ⟨(wrap64 (x6_3 + 1)), (by first | rfl | (simp; done) | (simp [*]; done)), H', ⟨by have := HJ1.out; have := HK2.out; have := HK3.out; have := HK4.out; omega⟩, ⟨by (with_reducible repeat (first | refine blk_drewN ?_ _ | refine blk_drew ?_ | refine blk_alloc ?_ _)); exact BK275.out⟩, ⟨by repeat (first | (with_reducible first | exact HB.out | apply below_alloc | apply pw_below_drewN | apply below_drew1 | refine below_set ?_ GE275.out) | exact HB.out)⟩⟩
             ·
              rw [if_neg c42] at H
              exact absurd H (by simp)
            ·
             rw [if_neg c41] at H
             exact absurd H (by simp)
         ·
          rw [if_neg c40] at H
          have c40b0 : decide (x6_3 < 4) = false := decide_eq_false c40
          clear c40
          obtain rfl := Option.some.inj H
          go_wp2
          go_ret
          exact ⟨by first | rfl | (simp [errW_none, errW_some] <;> rfl) | (simp [*, errW_none, errW_some] <;> rfl) | exact ret_ie _ | (simp [*, errW_none, errW_some, bne]; done), by repeat (first | (with_reducible first | exact HB.out | apply below_alloc | apply pw_below_drewN | apply below_drew1 | refine below_set ?_ GE275.out) | exact HB.out)⟩

end Go.Proofs.Ytdlghckcbbjipaa.R

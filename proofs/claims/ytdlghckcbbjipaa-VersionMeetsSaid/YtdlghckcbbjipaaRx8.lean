/- Contracts of Go functions and what they come to, over the translation of this seat: made by a program of this session (print2.py). -/
import Derived.Test.YtdlghckcbbjipaaRx0
import Derived.Test.YtdlghckcbbjipaaRx1
namespace Go.Proofs.Ytdlghckcbbjipaa.R
open Go.RowKit Go.Proofs.Ytdlghckcbbjipaa.Co Go.Proofs.Ytdlghckcbbjipaa.Ret Go.Proofs.Ytdlghckcbbjipaa.Plain Go.Proofs.YtdlghckcbbjipaaW.PrintWords Go.Proofs.YtdlghckcbbjipaaW.PrintLast Go.Proofs.YtdlghckcbbjipaaW.PrintMore
attribute [local go_sem] max2_int min2_int max_two min_two max_three min_three max_four min_four   -- for this text's walks alone
set_option linter.unusedVariables false
set_option linter.unusedSimpArgs false

attribute [local go_sem high] eqA32
/-! ### millhandlaw16_in: function 11 -/
def millhandlaw16_in.l0 : Nat → List (S32) → Int → ByteArray → Int → Int → ByteArray → ByteArray → Option (Bool)
 | 0, _, _, _, _, _, _, _ => none
 | k + 1, x0, x5, x225000, x225001, x225002, x225003, x225004 => if x5 < (x0.length : Int) then (if 0 ≤ x5 then (if ((((rd_T32 x0 x5).f0).toList) == x225000.toList && (((rd_T32 x0 x5).f1) == x225001 && (((rd_T32 x0 x5).f2) == x225002 && ((((rd_T32 x0 x5).f3).toList) == x225003.toList && ((((rd_T32 x0 x5).f4).toList) == x225004.toList))))) = true then (some true) else (millhandlaw16_in.l0 k x0 (wrap64 (x5 + 1)) x225000 x225001 x225002 x225003 x225004)) else (none)) else (some false)
def millhandlaw16_in.f (k : Nat) (l0 : List (S32)) (a1_0 : ByteArray) (a1_1 : Int) (a1_2 : Int) (a1_3 : ByteArray) (a1_4 : ByteArray) : Option (Bool) := millhandlaw16_in.l0 k l0 0 a1_0 a1_1 a1_2 a1_3 a1_4
set_option maxHeartbeats 8000000 in
set_option maxRecDepth 100000 in
theorem millhandlaw16_in.calls (k : Nat) (A0 : Option Addr) (c0 : Nat) (l0 : List (S32)) (a1_0 : ByteArray) (a1_1 : Int) (a1_2 : Int) (a1_3 : ByteArray) (a1_4 : ByteArray) (r : Bool) (w : World) (hr0 : Kd.C k32 w A0 l0.length l0) (hc0 : l0.length ≤ c0) (h : millhandlaw16_in.f k l0 a1_0 a1_1 a1_2 a1_3 a1_4 = some r) :
  Calls Try.prog 11 #[.slice A0 l0.length c0, .agg #[.string a1_0, .int .i64 a1_1, .int .i64 a1_2, .string a1_3, .string a1_4]] w fun e w' => e = .returned (.bool r) ∧ Below w.heap.size w w' := by
 have hu32 := Try.underlying32
 have HR0 := Aside0.mk hr0
 have HC0 := Aside0.mk hc0
 clear hr0 hc0
 have HB := Aside0.mk (Below.refl w.heap.size w)
 have H : (millhandlaw16_in.l0 k l0 0 a1_0 a1_1 a1_2 a1_3 a1_4) = some r := h
 clear h
 have H' := Aside0.mk H
 clear H
 go_enter Try.func11, Try.ntmps11
 go_wp2_with (first | ((with_reducible refine gate_dst (N := 3) rfl ?_); refine box_event ?hg (N := 3) ?hd (cs := #[.string a1_0, .int .i64 a1_1, .int .i64 a1_2, .string a1_3, .string a1_4]) (t := 32) ?hr ?_; (case hd => rfl); (case hg => rfl); (case hr => first | (go_simp; done) | (go_simp; rfl)); intro gb224 hg w3 hbox hb; have n0_ := Aside0.mk (below_step (by repeat (first | (with_reducible first | exact HB.out | apply below_alloc | apply pw_below_drewN | apply below_drew1) | exact HB.out)) hb); have n1_ := Aside0.mk (hbox); have n2_ := Aside0.mk ((by rw [hg]; exact (below_size (by repeat (first | (with_reducible first | exact HB.out | apply below_alloc | apply pw_below_drewN | apply below_drew1) | exact HB.out))) : w.heap.size ≤ gb224)); have n3_ := Aside0.mk ((by rw [hg]; exact (below_size (by repeat (first | (with_reducible first | exact HB.out | apply below_alloc | apply pw_below_drewN | apply below_drew1) | exact HB.out))) : w.heap.size ≤ gb224)); clear HB; have HB := n0_; have BK224 := n1_; have GW224 := n2_; have GE224 := n3_; clear n0_ n1_ n2_ n3_; clear hb hbox hg))
 repeat (go_quiet (first | ((with_reducible refine gate_dst (N := 3) rfl ?_); refine box_event ?hg (N := 3) ?hd (cs := #[.string a1_0, .int .i64 a1_1, .int .i64 a1_2, .string a1_3, .string a1_4]) (t := 32) ?hr ?_; (case hd => rfl); (case hg => rfl); (case hr => first | (go_simp; done) | (go_simp; rfl)); intro gb224 hg w3 hbox hb; have n0_ := Aside0.mk (below_step (by repeat (first | (with_reducible first | exact HB.out | apply below_alloc | apply pw_below_drewN | apply below_drew1) | exact HB.out)) hb); have n1_ := Aside0.mk (hbox); have n2_ := Aside0.mk ((by rw [hg]; exact (below_size (by repeat (first | (with_reducible first | exact HB.out | apply below_alloc | apply pw_below_drewN | apply below_drew1) | exact HB.out))) : w.heap.size ≤ gb224)); have n3_ := Aside0.mk ((by rw [hg]; exact (below_size (by repeat (first | (with_reducible first | exact HB.out | apply below_alloc | apply pw_below_drewN | apply below_drew1) | exact HB.out))) : w.heap.size ≤ gb224)); clear HB; have HB := n0_; have BK224 := n1_; have GW224 := n2_; have GE224 := n3_; clear n0_ n1_ n2_ n3_; clear hb hbox hg)); try go_wp2_with (first | ((with_reducible refine gate_dst (N := 3) rfl ?_); refine box_event ?hg (N := 3) ?hd (cs := #[.string a1_0, .int .i64 a1_1, .int .i64 a1_2, .string a1_3, .string a1_4]) (t := 32) ?hr ?_; (case hd => rfl); (case hg => rfl); (case hr => first | (go_simp; done) | (go_simp; rfl)); intro gb224 hg w3 hbox hb; have n0_ := Aside0.mk (below_step (by repeat (first | (with_reducible first | exact HB.out | apply below_alloc | apply pw_below_drewN | apply below_drew1) | exact HB.out)) hb); have n1_ := Aside0.mk (hbox); have n2_ := Aside0.mk ((by rw [hg]; exact (below_size (by repeat (first | (with_reducible first | exact HB.out | apply below_alloc | apply pw_below_drewN | apply below_drew1) | exact HB.out))) : w.heap.size ≤ gb224)); have n3_ := Aside0.mk ((by rw [hg]; exact (below_size (by repeat (first | (with_reducible first | exact HB.out | apply below_alloc | apply pw_below_drewN | apply below_drew1) | exact HB.out))) : w.heap.size ≤ gb224)); clear HB; have HB := n0_; have BK224 := n1_; have GW224 := n2_; have GE224 := n3_; clear n0_ n1_ n2_ n3_; clear hb hbox hg)))
 go_loopg [5] k (fun kq v5 w' => ∃ (x5_1 : Int), v5 = .int .i64 x5_1 ∧ Aside0 (millhandlaw16_in.l0 kq l0 x5_1 a1_0 a1_1 a1_2 a1_3 a1_4 = some r) ∧ Aside0 (kq ≤ k) ∧ Aside0 (w'.heap[gb224]? = some (.cells #[.string a1_0, .int .i64 a1_1, .int .i64 a1_2, .string a1_3, .string a1_4] 32 (0, 0))) ∧ Aside0 (Below w.heap.size w w'))
 case atStart => exact ⟨(0), (by first | rfl | (simp; done) | (simp [*]; done)), H', ⟨Nat.le_refl _⟩, ⟨by (with_reducible repeat (first | refine blk_drewN ?_ _ | refine blk_drew ?_ | refine blk_alloc ?_ _)); exact BK224.out⟩, ⟨by repeat (first | (with_reducible first | exact HB.out | apply below_alloc | apply pw_below_drewN | apply below_drew1 | refine below_set ?_ GE224.out) | exact HB.out)⟩⟩
 case round =>
  clear H'
  try clear c1
  try clear p2
  obtain ⟨x5_1, rfl, HA, HK1, BK224, HB⟩ := hrel
  cases gk with
  | zero => exact absurd HA.out (by simp [millhandlaw16_in.l0])
  | succ k1 =>
   have H := HA.out
   clear HA
   simp only [millhandlaw16_in.l0] at H
   by_cases c4 : x5_1 < (l0.length : Int)
   ·
    rw [if_pos c4] at H
    have c4b0 : decide (x5_1 < (l0.length : Int)) = true := decide_eq_true c4
    clear c4
    by_cases c5 : 0 ≤ x5_1
    ·
     rw [if_pos c5] at H
     have c5b0 : decide (0 ≤ x5_1) = true := decide_eq_true c5
     clear c5
     by_cases c6 : ((((rd_T32 l0 x5_1).f0).toList) == a1_0.toList && (((rd_T32 l0 x5_1).f1) == a1_1 && (((rd_T32 l0 x5_1).f2) == a1_2 && ((((rd_T32 l0 x5_1).f3).toList) == a1_3.toList && ((((rd_T32 l0 x5_1).f4).toList) == a1_4.toList))))) = true
     ·
      rw [if_pos c6] at H
      have c6b0 : ((((rd_T32 l0 x5_1).f0).toList) == a1_0.toList && (((rd_T32 l0 x5_1).f1) == a1_1 && (((rd_T32 l0 x5_1).f2) == a1_2 && ((((rd_T32 l0 x5_1).f3).toList) == a1_3.toList && ((((rd_T32 l0 x5_1).f4).toList) == a1_4.toList))))) = true := c6
      (try (have c6b1 : decide ((((rd_T32 l0 x5_1).f0).toList) = a1_0.toList && (((rd_T32 l0 x5_1).f1) == a1_1 && (((rd_T32 l0 x5_1).f2) == a1_2 && ((((rd_T32 l0 x5_1).f3).toList) == a1_3.toList && ((((rd_T32 l0 x5_1).f4).toList) == a1_4.toList))))) = true := by simpa using c6))
      (try (have c6b2 : ((((rd_T32 l0 x5_1).f0).toList) == a1_0.toList && (((rd_T32 l0 x5_1).f1) == a1_1 && (((rd_T32 l0 x5_1).f2) == a1_2 && ((((rd_T32 l0 x5_1).f3).toList) == a1_3.toList && ((((rd_T32 l0 x5_1).f4).toList) == a1_4.toList))))) = true := by simpa using c6))
      clear c6
      obtain rfl := Option.some.inj H
      have p225 : 0 ≤ (x5_1 : Int) := of_decide_eq_true (by first | (with_reducible assumption) | assumption)
      have q225 : x5_1 < (l0.length : Int) := of_decide_eq_true (by first | (with_reducible assumption) | assumption)
      obtain ⟨ad225, e225, hx225_0, hx225_1, hx225_2, hx225_3, hx225_4⟩ := at_T32 HR0.out x5_1 p225 q225
      cases e225
      replace hx225_0 := cl_ HB.out hx225_0
      replace hx225_1 := cl_ HB.out hx225_1
      replace hx225_2 := cl_ HB.out hx225_2
      replace hx225_3 := cl_ HB.out hx225_3
      replace hx225_4 := cl_ HB.out hx225_4
      replace p225 := eq_true p225
      replace q225 := eq_true q225
      have hcz7_0 : wr.cell? ⟨gb224, 0, none⟩ = some (.string a1_0) := (blk_cell BK224.out 0).trans rfl
      have hcz7_1 : wr.cell? ⟨gb224, 1, none⟩ = some (.int .i64 a1_1) := (blk_cell BK224.out 1).trans rfl
      have hcz7_2 : wr.cell? ⟨gb224, 2, none⟩ = some (.int .i64 a1_2) := (blk_cell BK224.out 2).trans rfl
      have hcz7_3 : wr.cell? ⟨gb224, 3, none⟩ = some (.string a1_3) := (blk_cell BK224.out 3).trans rfl
      have hcz7_4 : wr.cell? ⟨gb224, 4, none⟩ = some (.string a1_4) := (blk_cell BK224.out 4).trans rfl
      have hfz7_0 := blk_frozen BK224.out 0
      have hfz7_1 := blk_frozen BK224.out 1
      have hfz7_2 := blk_frozen BK224.out 2
      have hfz7_3 := blk_frozen BK224.out 3
      have hfz7_4 := blk_frozen BK224.out 4
      go_wp2
      repeat (go_quiet (fail); try go_wp2)
      go_ret
      exact ⟨by first | rfl | (simp [errW_none, errW_some] <;> rfl) | (simp [*, errW_none, errW_some] <;> rfl) | exact ret_ie _ | (simp [*, errW_none, errW_some, bne]; done), by repeat (first | (with_reducible first | exact HB.out | apply below_alloc | apply pw_below_drewN | apply below_drew1 | refine below_set ?_ GE224.out) | exact HB.out)⟩
     ·
      rw [if_neg c6] at H
      have c6b0 : ((((rd_T32 l0 x5_1).f0).toList) == a1_0.toList && (((rd_T32 l0 x5_1).f1) == a1_1 && (((rd_T32 l0 x5_1).f2) == a1_2 && ((((rd_T32 l0 x5_1).f3).toList) == a1_3.toList && ((((rd_T32 l0 x5_1).f4).toList) == a1_4.toList))))) = false := by simpa using c6
      (try (have c6b1 : decide ((((rd_T32 l0 x5_1).f0).toList) = a1_0.toList && (((rd_T32 l0 x5_1).f1) == a1_1 && (((rd_T32 l0 x5_1).f2) == a1_2 && ((((rd_T32 l0 x5_1).f3).toList) == a1_3.toList && ((((rd_T32 l0 x5_1).f4).toList) == a1_4.toList))))) = false := by simpa using c6))
      (try (have c6b2 : ((((rd_T32 l0 x5_1).f0).toList) == a1_0.toList && (((rd_T32 l0 x5_1).f1) == a1_1 && (((rd_T32 l0 x5_1).f2) == a1_2 && ((((rd_T32 l0 x5_1).f3).toList) == a1_3.toList && ((((rd_T32 l0 x5_1).f4).toList) == a1_4.toList))))) = false := by simpa using c6))
      (try (have c6b3 : ¬ ((((rd_T32 l0 x5_1).f0).toList) = a1_0.toList && (((rd_T32 l0 x5_1).f1) == a1_1 && (((rd_T32 l0 x5_1).f2) == a1_2 && ((((rd_T32 l0 x5_1).f3).toList) == a1_3.toList && ((((rd_T32 l0 x5_1).f4).toList) == a1_4.toList))))) := by simpa using c6))
      clear c6
      have H' := Aside0.mk H
      clear H
      have p225 : 0 ≤ (x5_1 : Int) := of_decide_eq_true (by first | (with_reducible assumption) | assumption)
      have q225 : x5_1 < (l0.length : Int) := of_decide_eq_true (by first | (with_reducible assumption) | assumption)
      obtain ⟨ad225, e225, hx225_0, hx225_1, hx225_2, hx225_3, hx225_4⟩ := at_T32 HR0.out x5_1 p225 q225
      cases e225
      replace hx225_0 := cl_ HB.out hx225_0
      replace hx225_1 := cl_ HB.out hx225_1
      replace hx225_2 := cl_ HB.out hx225_2
      replace hx225_3 := cl_ HB.out hx225_3
      replace hx225_4 := cl_ HB.out hx225_4
      replace p225 := eq_true p225
      replace q225 := eq_true q225
      have hcz8_0 : wr.cell? ⟨gb224, 0, none⟩ = some (.string a1_0) := (blk_cell BK224.out 0).trans rfl
      have hcz8_1 : wr.cell? ⟨gb224, 1, none⟩ = some (.int .i64 a1_1) := (blk_cell BK224.out 1).trans rfl
      have hcz8_2 : wr.cell? ⟨gb224, 2, none⟩ = some (.int .i64 a1_2) := (blk_cell BK224.out 2).trans rfl
      have hcz8_3 : wr.cell? ⟨gb224, 3, none⟩ = some (.string a1_3) := (blk_cell BK224.out 3).trans rfl
      have hcz8_4 : wr.cell? ⟨gb224, 4, none⟩ = some (.string a1_4) := (blk_cell BK224.out 4).trans rfl
      have hfz8_0 := blk_frozen BK224.out 0
      have hfz8_1 := blk_frozen BK224.out 1
      have hfz8_2 := blk_frozen BK224.out 2
      have hfz8_3 := blk_frozen BK224.out 3
      have hfz8_4 := blk_frozen BK224.out 4
      go_wp2
      repeat (go_quiet (fail); try go_wp2)
      go_roundg k1
      case measure => have := HK1.out; omega
      case rel => exact ⟨(wrap64 (x5_1 + 1)), (by first | rfl | (simp; done) | (simp [*]; done)), H', ⟨by have := HK1.out; omega⟩, ⟨by (with_reducible repeat (first | refine blk_drewN ?_ _ | refine blk_drew ?_ | refine blk_alloc ?_ _)); exact BK224.out⟩, ⟨by repeat (first | (with_reducible first | exact HB.out | apply below_alloc | apply pw_below_drewN | apply below_drew1 | refine below_set ?_ GE224.out) | exact HB.out)⟩⟩
    ·
     rw [if_neg c5] at H
     exact absurd H (by simp)
   ·
    rw [if_neg c4] at H
    have c4b0 : decide (x5_1 < (l0.length : Int)) = false := decide_eq_false c4
    clear c4
    obtain rfl := Option.some.inj H
    go_wp2
    repeat (go_quiet (fail); try go_wp2)
    go_ret
    exact ⟨by first | rfl | (simp [errW_none, errW_some] <;> rfl) | (simp [*, errW_none, errW_some] <;> rfl) | exact ret_ie _ | (simp [*, errW_none, errW_some, bne]; done), by repeat (first | (with_reducible first | exact HB.out | apply below_alloc | apply pw_below_drewN | apply below_drew1 | refine below_set ?_ GE224.out) | exact HB.out)⟩

/-! ### millhandlaw16_at: function 12 -/
mutual
def millhandlaw16_at.l0 : Nat → Int → List (List (S32)) → Int → Int → ByteArray → ByteArray → Int → Int → ByteArray → ByteArray → Option (Int)
 | 0, _, _, _, _, _, _, _, _, _, _ => none
 | k + 1, x5, x227000, x227001, x227002, x227003, x228000, x228001, x228002, x228003, x228004 => if x5 < (x227000.length : Int) then (millhandlaw16_at.l1 k x5 0 x227000 x227001 x227002 x227003 x228000 x228001 x228002 x228003 x228004) else (some (-1))
def millhandlaw16_at.l1 : Nat → Int → Int → List (List (S32)) → Int → Int → ByteArray → ByteArray → Int → Int → ByteArray → ByteArray → Option (Int)
 | 0, _, _, _, _, _, _, _, _, _, _, _ => none
 | k + 1, x5, x6, x227000, x227001, x227002, x227003, x228000, x228001, x228002, x228003, x228004 => if 0 ≤ x5 then (if x5 < (x227000.length : Int) then (if x6 < ((rd_L3 x227000 x5).length : Int) then (if 0 ≤ x6 then (if ((((rd_T32 (rd_L3 x227000 x5) x6).f0).toList) == x228000.toList && (((rd_T32 (rd_L3 x227000 x5) x6).f1) == x228001 && (((rd_T32 (rd_L3 x227000 x5) x6).f2) == x228002 && ((((rd_T32 (rd_L3 x227000 x5) x6).f3).toList) == x228003.toList && ((((rd_T32 (rd_L3 x227000 x5) x6).f4).toList) == x228004.toList))))) = true then (some x5) else (millhandlaw16_at.l1 k x5 (wrap64 (x6 + 1)) x227000 x227001 x227002 x227003 x228000 x228001 x228002 x228003 x228004)) else (none)) else (millhandlaw16_at.l0 k (wrap64 (x5 + 1)) x227000 x227001 x227002 x227003 x228000 x228001 x228002 x228003 x228004)) else (none)) else (none)
end
def millhandlaw16_at.f (k : Nat) (l0_0 : List (List (S32))) (a0_1 : Int) (a0_2 : Int) (a0_3 : ByteArray) (a1_0 : ByteArray) (a1_1 : Int) (a1_2 : Int) (a1_3 : ByteArray) (a1_4 : ByteArray) : Option (Int) := millhandlaw16_at.l0 k 0 l0_0 a0_1 a0_2 a0_3 a1_0 a1_1 a1_2 a1_3 a1_4
set_option maxHeartbeats 8000000 in
set_option maxRecDepth 100000 in
theorem millhandlaw16_at.calls (k : Nat) (A0_0 : Option Addr) (c0_0 : Nat) (l0_0 : List (List (S32))) (a0_1 : Int) (a0_2 : Int) (a0_3 : ByteArray) (a1_0 : ByteArray) (a1_1 : Int) (a1_2 : Int) (a1_3 : ByteArray) (a1_4 : ByteArray) (r : Int) (w : World) (hr0_0 : Kd.C (Kd.slice 32 k32) w A0_0 l0_0.length l0_0) (hc0_0 : l0_0.length ≤ c0_0) (h : millhandlaw16_at.f k l0_0 a0_1 a0_2 a0_3 a1_0 a1_1 a1_2 a1_3 a1_4 = some r) :
  Calls Try.prog 12 #[.agg #[.slice A0_0 l0_0.length c0_0, .int .i64 a0_1, .int .i64 a0_2, .string a0_3], .agg #[.string a1_0, .int .i64 a1_1, .int .i64 a1_2, .string a1_3, .string a1_4]] w fun e w' => e = .returned (.int .i64 r) ∧ Below w.heap.size w w' := by
 have hu24 := Try.underlying24
 have hu32 := Try.underlying32
 have HR0_0 := Aside0.mk hr0_0
 have HC0_0 := Aside0.mk hc0_0
 clear hr0_0 hc0_0
 have HB := Aside0.mk (Below.refl w.heap.size w)
 have H : (millhandlaw16_at.l0 k 0 l0_0 a0_1 a0_2 a0_3 a1_0 a1_1 a1_2 a1_3 a1_4) = some r := h
 clear h
 have H' := Aside0.mk H
 clear H
 go_enter Try.func12, Try.ntmps12
 go_wp2_with (first | ((with_reducible refine gate_dst (N := 2) rfl ?_); refine box_event ?hg (N := 2) ?hd (cs := #[.slice A0_0 l0_0.length c0_0, .int .i64 a0_1, .int .i64 a0_2, .string a0_3]) (t := 24) ?hr ?_; (case hd => rfl); (case hg => rfl); (case hr => first | (go_simp; done) | (go_simp; rfl)); intro gb226 hg w3 hbox hb; have n0_ := Aside0.mk (below_step (by repeat (first | (with_reducible first | exact HB.out | apply below_alloc | apply pw_below_drewN | apply below_drew1) | exact HB.out)) hb); have n1_ := Aside0.mk (hbox); have n2_ := Aside0.mk ((by rw [hg]; exact (below_size (by repeat (first | (with_reducible first | exact HB.out | apply below_alloc | apply pw_below_drewN | apply below_drew1) | exact HB.out))) : w.heap.size ≤ gb226)); have n3_ := Aside0.mk ((by rw [hg]; exact (below_size (by repeat (first | (with_reducible first | exact HB.out | apply below_alloc | apply pw_below_drewN | apply below_drew1) | exact HB.out))) : w.heap.size ≤ gb226)); clear HB; have HB := n0_; have BK226 := n1_; have GW226 := n2_; have GE226 := n3_; clear n0_ n1_ n2_ n3_; clear hb hbox hg) | ((with_reducible refine gate_dst (N := 3) rfl ?_); refine box_event ?hg (N := 3) ?hd (cs := #[.string a1_0, .int .i64 a1_1, .int .i64 a1_2, .string a1_3, .string a1_4]) (t := 32) ?hr ?_; (case hd => rfl); (case hg => rfl); (case hr => first | (go_simp; done) | (go_simp; rfl)); intro gb227 hg w4 hbox hb; have n0_ := Aside0.mk (blk_below (g := gb226) (o := .cells #[.slice A0_0 l0_0.length c0_0, .int .i64 a0_1, .int .i64 a0_2, .string a0_3] 24 (0, 0)) (by (with_reducible repeat (first | refine blk_drewN ?_ _ | refine blk_drew ?_ | refine blk_alloc ?_ _)); exact BK226.out) hb); have n1_ := Aside0.mk (below_step (by repeat (first | (with_reducible first | exact HB.out | apply below_alloc | apply pw_below_drewN | apply below_drew1 | refine below_set ?_ GE226.out) | exact HB.out)) hb); have n2_ := Aside0.mk (hbox); have n3_ := Aside0.mk ((by rw [hg]; exact (below_size (by repeat (first | (with_reducible first | exact HB.out | apply below_alloc | apply pw_below_drewN | apply below_drew1 | refine below_set ?_ GE226.out) | exact HB.out))) : w.heap.size ≤ gb227)); have n4_ := Aside0.mk ((by rw [hg]; exact (below_size (by repeat (first | (with_reducible first | exact HB.out | apply below_alloc | apply pw_below_drewN | apply below_drew1 | refine below_set ?_ GE226.out) | exact HB.out))) : w.heap.size ≤ gb227)); have n5_ := Aside0.mk ((by rw [hg]; exact Nat.ne_of_lt (blk_lt (g := gb226) (o := .cells #[.slice A0_0 l0_0.length c0_0, .int .i64 a0_1, .int .i64 a0_2, .string a0_3] 24 (0, 0)) (by (with_reducible repeat (first | refine blk_drewN ?_ _ | refine blk_drew ?_ | refine blk_alloc ?_ _)); exact BK226.out)) : gb226 ≠ gb227)); have n6_ := Aside0.mk ((by rw [hg]; exact Nat.ne_of_gt (blk_lt (g := gb226) (o := .cells #[.slice A0_0 l0_0.length c0_0, .int .i64 a0_1, .int .i64 a0_2, .string a0_3] 24 (0, 0)) (by (with_reducible repeat (first | refine blk_drewN ?_ _ | refine blk_drew ?_ | refine blk_alloc ?_ _)); exact BK226.out)) : gb227 ≠ gb226)); clear BK226; clear HB; have BK226 := n0_; have HB := n1_; have BK227 := n2_; have GW227 := n3_; have GE227 := n4_; have NB226_227 := n5_; have NB227_226 := n6_; clear n0_ n1_ n2_ n3_ n4_ n5_ n6_; clear hb hbox hg))
 repeat (go_quiet (first | ((with_reducible refine gate_dst (N := 2) rfl ?_); refine box_event ?hg (N := 2) ?hd (cs := #[.slice A0_0 l0_0.length c0_0, .int .i64 a0_1, .int .i64 a0_2, .string a0_3]) (t := 24) ?hr ?_; (case hd => rfl); (case hg => rfl); (case hr => first | (go_simp; done) | (go_simp; rfl)); intro gb226 hg w3 hbox hb; have n0_ := Aside0.mk (below_step (by repeat (first | (with_reducible first | exact HB.out | apply below_alloc | apply pw_below_drewN | apply below_drew1) | exact HB.out)) hb); have n1_ := Aside0.mk (hbox); have n2_ := Aside0.mk ((by rw [hg]; exact (below_size (by repeat (first | (with_reducible first | exact HB.out | apply below_alloc | apply pw_below_drewN | apply below_drew1) | exact HB.out))) : w.heap.size ≤ gb226)); have n3_ := Aside0.mk ((by rw [hg]; exact (below_size (by repeat (first | (with_reducible first | exact HB.out | apply below_alloc | apply pw_below_drewN | apply below_drew1) | exact HB.out))) : w.heap.size ≤ gb226)); clear HB; have HB := n0_; have BK226 := n1_; have GW226 := n2_; have GE226 := n3_; clear n0_ n1_ n2_ n3_; clear hb hbox hg) | ((with_reducible refine gate_dst (N := 3) rfl ?_); refine box_event ?hg (N := 3) ?hd (cs := #[.string a1_0, .int .i64 a1_1, .int .i64 a1_2, .string a1_3, .string a1_4]) (t := 32) ?hr ?_; (case hd => rfl); (case hg => rfl); (case hr => first | (go_simp; done) | (go_simp; rfl)); intro gb227 hg w4 hbox hb; have n0_ := Aside0.mk (blk_below (g := gb226) (o := .cells #[.slice A0_0 l0_0.length c0_0, .int .i64 a0_1, .int .i64 a0_2, .string a0_3] 24 (0, 0)) (by (with_reducible repeat (first | refine blk_drewN ?_ _ | refine blk_drew ?_ | refine blk_alloc ?_ _)); exact BK226.out) hb); have n1_ := Aside0.mk (below_step (by repeat (first | (with_reducible first | exact HB.out | apply below_alloc | apply pw_below_drewN | apply below_drew1 | refine below_set ?_ GE226.out) | exact HB.out)) hb); have n2_ := Aside0.mk (hbox); have n3_ := Aside0.mk ((by rw [hg]; exact (below_size (by repeat (first | (with_reducible first | exact HB.out | apply below_alloc | apply pw_below_drewN | apply below_drew1 | refine below_set ?_ GE226.out) | exact HB.out))) : w.heap.size ≤ gb227)); have n4_ := Aside0.mk ((by rw [hg]; exact (below_size (by repeat (first | (with_reducible first | exact HB.out | apply below_alloc | apply pw_below_drewN | apply below_drew1 | refine below_set ?_ GE226.out) | exact HB.out))) : w.heap.size ≤ gb227)); have n5_ := Aside0.mk ((by rw [hg]; exact Nat.ne_of_lt (blk_lt (g := gb226) (o := .cells #[.slice A0_0 l0_0.length c0_0, .int .i64 a0_1, .int .i64 a0_2, .string a0_3] 24 (0, 0)) (by (with_reducible repeat (first | refine blk_drewN ?_ _ | refine blk_drew ?_ | refine blk_alloc ?_ _)); exact BK226.out)) : gb226 ≠ gb227)); have n6_ := Aside0.mk ((by rw [hg]; exact Nat.ne_of_gt (blk_lt (g := gb226) (o := .cells #[.slice A0_0 l0_0.length c0_0, .int .i64 a0_1, .int .i64 a0_2, .string a0_3] 24 (0, 0)) (by (with_reducible repeat (first | refine blk_drewN ?_ _ | refine blk_drew ?_ | refine blk_alloc ?_ _)); exact BK226.out)) : gb227 ≠ gb226)); clear BK226; clear HB; have BK226 := n0_; have HB := n1_; have BK227 := n2_; have GW227 := n3_; have GE227 := n4_; have NB226_227 := n5_; have NB227_226 := n6_; clear n0_ n1_ n2_ n3_ n4_ n5_ n6_; clear hb hbox hg)); try go_wp2_with (first | ((with_reducible refine gate_dst (N := 2) rfl ?_); refine box_event ?hg (N := 2) ?hd (cs := #[.slice A0_0 l0_0.length c0_0, .int .i64 a0_1, .int .i64 a0_2, .string a0_3]) (t := 24) ?hr ?_; (case hd => rfl); (case hg => rfl); (case hr => first | (go_simp; done) | (go_simp; rfl)); intro gb226 hg w3 hbox hb; have n0_ := Aside0.mk (below_step (by repeat (first | (with_reducible first | exact HB.out | apply below_alloc | apply pw_below_drewN | apply below_drew1) | exact HB.out)) hb); have n1_ := Aside0.mk (hbox); have n2_ := Aside0.mk ((by rw [hg]; exact (below_size (by repeat (first | (with_reducible first | exact HB.out | apply below_alloc | apply pw_below_drewN | apply below_drew1) | exact HB.out))) : w.heap.size ≤ gb226)); have n3_ := Aside0.mk ((by rw [hg]; exact (below_size (by repeat (first | (with_reducible first | exact HB.out | apply below_alloc | apply pw_below_drewN | apply below_drew1) | exact HB.out))) : w.heap.size ≤ gb226)); clear HB; have HB := n0_; have BK226 := n1_; have GW226 := n2_; have GE226 := n3_; clear n0_ n1_ n2_ n3_; clear hb hbox hg) | ((with_reducible refine gate_dst (N := 3) rfl ?_); refine box_event ?hg (N := 3) ?hd (cs := #[.string a1_0, .int .i64 a1_1, .int .i64 a1_2, .string a1_3, .string a1_4]) (t := 32) ?hr ?_; (case hd => rfl); (case hg => rfl); (case hr => first | (go_simp; done) | (go_simp; rfl)); intro gb227 hg w4 hbox hb; have n0_ := Aside0.mk (blk_below (g := gb226) (o := .cells #[.slice A0_0 l0_0.length c0_0, .int .i64 a0_1, .int .i64 a0_2, .string a0_3] 24 (0, 0)) (by (with_reducible repeat (first | refine blk_drewN ?_ _ | refine blk_drew ?_ | refine blk_alloc ?_ _)); exact BK226.out) hb); have n1_ := Aside0.mk (below_step (by repeat (first | (with_reducible first | exact HB.out | apply below_alloc | apply pw_below_drewN | apply below_drew1 | refine below_set ?_ GE226.out) | exact HB.out)) hb); have n2_ := Aside0.mk (hbox); have n3_ := Aside0.mk ((by rw [hg]; exact (below_size (by repeat (first | (with_reducible first | exact HB.out | apply below_alloc | apply pw_below_drewN | apply below_drew1 | refine below_set ?_ GE226.out) | exact HB.out))) : w.heap.size ≤ gb227)); have n4_ := Aside0.mk ((by rw [hg]; exact (below_size (by repeat (first | (with_reducible first | exact HB.out | apply below_alloc | apply pw_below_drewN | apply below_drew1 | refine below_set ?_ GE226.out) | exact HB.out))) : w.heap.size ≤ gb227)); have n5_ := Aside0.mk ((by rw [hg]; exact Nat.ne_of_lt (blk_lt (g := gb226) (o := .cells #[.slice A0_0 l0_0.length c0_0, .int .i64 a0_1, .int .i64 a0_2, .string a0_3] 24 (0, 0)) (by (with_reducible repeat (first | refine blk_drewN ?_ _ | refine blk_drew ?_ | refine blk_alloc ?_ _)); exact BK226.out)) : gb226 ≠ gb227)); have n6_ := Aside0.mk ((by rw [hg]; exact Nat.ne_of_gt (blk_lt (g := gb226) (o := .cells #[.slice A0_0 l0_0.length c0_0, .int .i64 a0_1, .int .i64 a0_2, .string a0_3] 24 (0, 0)) (by (with_reducible repeat (first | refine blk_drewN ?_ _ | refine blk_drew ?_ | refine blk_alloc ?_ _)); exact BK226.out)) : gb227 ≠ gb226)); clear BK226; clear HB; have BK226 := n0_; have HB := n1_; have BK227 := n2_; have GW227 := n3_; have GE227 := n4_; have NB226_227 := n5_; have NB227_226 := n6_; clear n0_ n1_ n2_ n3_ n4_ n5_ n6_; clear hb hbox hg)))
 go_loopg [5] k (fun kq v5 w' => ∃ (x5_1 : Int), v5 = .int .i64 x5_1 ∧ Aside0 (millhandlaw16_at.l0 kq x5_1 l0_0 a0_1 a0_2 a0_3 a1_0 a1_1 a1_2 a1_3 a1_4 = some r) ∧ Aside0 (kq ≤ k) ∧ Aside0 (w'.heap[gb226]? = some (.cells #[(.slice A0_0 l0_0.length c0_0), .int .i64 a0_1, .int .i64 a0_2, .string a0_3] 24 (0, 0))) ∧ Aside0 (w'.heap[gb227]? = some (.cells #[.string a1_0, .int .i64 a1_1, .int .i64 a1_2, .string a1_3, .string a1_4] 32 (0, 0))) ∧ Aside0 (Below w.heap.size w w'))
 case atStart => exact ⟨(0), (by first | rfl | (simp; done) | (simp [*]; done)), H', ⟨Nat.le_refl _⟩, ⟨by (with_reducible repeat (first | refine blk_drewN ?_ _ | refine blk_drew ?_ | refine blk_alloc ?_ _)); exact BK226.out⟩, ⟨by (with_reducible repeat (first | refine blk_drewN ?_ _ | refine blk_drew ?_ | refine blk_alloc ?_ _)); exact BK227.out⟩, ⟨by repeat (first | (with_reducible first | exact HB.out | apply below_alloc | apply pw_below_drewN | apply below_drew1 | refine below_set ?_ GE226.out | refine below_set ?_ GE227.out) | exact HB.out)⟩⟩
 case round =>
  clear H'
  try clear c1
  try clear p2
  obtain ⟨x5_1, rfl, HA, HK1, BK226, BK227, HB⟩ := hrel
  cases gk with
  | zero => exact absurd HA.out (by simp [millhandlaw16_at.l0])
  | succ k1 =>
   have H := HA.out
   clear HA
   simp only [millhandlaw16_at.l0] at H
   by_cases c5 : x5_1 < (l0_0.length : Int)
   ·
    rw [if_pos c5] at H
    have c5b0 : decide (x5_1 < (l0_0.length : Int)) = true := decide_eq_true c5
    clear c5
    have H' := Aside0.mk H
    clear H
    have hnb6 := NB226_227.out
    have hnc6 := NB227_226.out
    have hcz7_0 : wr.cell? ⟨gb226, 0, none⟩ = some (.slice A0_0 l0_0.length c0_0) := (blk_cell BK226.out 0).trans rfl
    have hcz7_1 : wr.cell? ⟨gb226, 1, none⟩ = some (.int .i64 a0_1) := (blk_cell BK226.out 1).trans rfl
    have hcz7_2 : wr.cell? ⟨gb226, 2, none⟩ = some (.int .i64 a0_2) := (blk_cell BK226.out 2).trans rfl
    have hcz7_3 : wr.cell? ⟨gb226, 3, none⟩ = some (.string a0_3) := (blk_cell BK226.out 3).trans rfl
    have hfz7_0 := blk_frozen BK226.out 0
    have hfz7_1 := blk_frozen BK226.out 1
    have hfz7_2 := blk_frozen BK226.out 2
    have hfz7_3 := blk_frozen BK226.out 3
    go_wp2
    repeat (go_quiet (fail); try go_wp2)
    go_loopg [6] k1 (fun kq v6 w' => ∃ (x6_2 : Int), v6 = .int .i64 x6_2 ∧ Aside0 (millhandlaw16_at.l1 kq x5_1 x6_2 l0_0 a0_1 a0_2 a0_3 a1_0 a1_1 a1_2 a1_3 a1_4 = some r) ∧ Aside0 (kq ≤ k1) ∧ Aside0 (w'.heap[gb226]? = some (.cells #[(.slice A0_0 l0_0.length c0_0), .int .i64 a0_1, .int .i64 a0_2, .string a0_3] 24 (0, 0))) ∧ Aside0 (w'.heap[gb227]? = some (.cells #[.string a1_0, .int .i64 a1_1, .int .i64 a1_2, .string a1_3, .string a1_4] 32 (0, 0))) ∧ Aside0 (Below w.heap.size w w'))
    case atStart => exact ⟨(0), (by first | rfl | (simp; done) | (simp [*]; done)), H', ⟨Nat.le_refl _⟩, ⟨by (with_reducible repeat (first | refine blk_drewN ?_ _ | refine blk_drew ?_ | refine blk_alloc ?_ _)); exact BK226.out⟩, ⟨by (with_reducible repeat (first | refine blk_drewN ?_ _ | refine blk_drew ?_ | refine blk_alloc ?_ _)); exact BK227.out⟩, ⟨by repeat (first | (with_reducible first | exact HB.out | apply below_alloc | apply pw_below_drewN | apply below_drew1 | refine below_set ?_ GE226.out | refine below_set ?_ GE227.out) | exact HB.out)⟩⟩
    case round =>
     clear H'
     try clear c1
     try clear p2
     try clear c5
     try clear c5b0
     try clear c6
     try clear hcz7_0
     try clear hcz7_1
     try clear hcz7_2
     try clear hcz7_3
     try clear hfz7_0
     try clear hfz7_1
     try clear hfz7_2
     try clear hfz7_3
     try clear p2
     obtain ⟨x6_2, rfl, HA, HK2, BK226, BK227, HB⟩ := hrel
     cases gk with
     | zero => exact absurd HA.out (by simp [millhandlaw16_at.l1])
     | succ k2 =>
      have H := HA.out
      clear HA
      simp only [millhandlaw16_at.l1] at H
      by_cases c8 : 0 ≤ x5_1
      ·
       rw [if_pos c8] at H
       have c8b0 : decide (0 ≤ x5_1) = true := decide_eq_true c8
       clear c8
       by_cases c9 : x5_1 < (l0_0.length : Int)
       ·
        rw [if_pos c9] at H
        have c9b0 : decide (x5_1 < (l0_0.length : Int)) = true := decide_eq_true c9
        clear c9
        by_cases c10 : x6_2 < ((rd_L3 l0_0 x5_1).length : Int)
        ·
         rw [if_pos c10] at H
         have c10b0 : decide (x6_2 < ((rd_L3 l0_0 x5_1).length : Int)) = true := decide_eq_true c10
         clear c10
         by_cases c11 : 0 ≤ x6_2
         ·
          rw [if_pos c11] at H
          have c11b0 : decide (0 ≤ x6_2) = true := decide_eq_true c11
          clear c11
          by_cases c12 : ((((rd_T32 (rd_L3 l0_0 x5_1) x6_2).f0).toList) == a1_0.toList && (((rd_T32 (rd_L3 l0_0 x5_1) x6_2).f1) == a1_1 && (((rd_T32 (rd_L3 l0_0 x5_1) x6_2).f2) == a1_2 && ((((rd_T32 (rd_L3 l0_0 x5_1) x6_2).f3).toList) == a1_3.toList && ((((rd_T32 (rd_L3 l0_0 x5_1) x6_2).f4).toList) == a1_4.toList))))) = true
          ·
           rw [if_pos c12] at H
           have c12b0 : ((((rd_T32 (rd_L3 l0_0 x5_1) x6_2).f0).toList) == a1_0.toList && (((rd_T32 (rd_L3 l0_0 x5_1) x6_2).f1) == a1_1 && (((rd_T32 (rd_L3 l0_0 x5_1) x6_2).f2) == a1_2 && ((((rd_T32 (rd_L3 l0_0 x5_1) x6_2).f3).toList) == a1_3.toList && ((((rd_T32 (rd_L3 l0_0 x5_1) x6_2).f4).toList) == a1_4.toList))))) = true := c12
           (try (have c12b1 : decide ((((rd_T32 (rd_L3 l0_0 x5_1) x6_2).f0).toList) = a1_0.toList && (((rd_T32 (rd_L3 l0_0 x5_1) x6_2).f1) == a1_1 && (((rd_T32 (rd_L3 l0_0 x5_1) x6_2).f2) == a1_2 && ((((rd_T32 (rd_L3 l0_0 x5_1) x6_2).f3).toList) == a1_3.toList && ((((rd_T32 (rd_L3 l0_0 x5_1) x6_2).f4).toList) == a1_4.toList))))) = true := by simpa using c12))
           (try (have c12b2 : ((((rd_T32 (rd_L3 l0_0 x5_1) x6_2).f0).toList) == a1_0.toList && (((rd_T32 (rd_L3 l0_0 x5_1) x6_2).f1) == a1_1 && (((rd_T32 (rd_L3 l0_0 x5_1) x6_2).f2) == a1_2 && ((((rd_T32 (rd_L3 l0_0 x5_1) x6_2).f3).toList) == a1_3.toList && ((((rd_T32 (rd_L3 l0_0 x5_1) x6_2).f4).toList) == a1_4.toList))))) = true := by simpa using c12))
           clear c12
           obtain rfl := Option.some.inj H
           have hnb13 := NB226_227.out
           have hnc13 := NB227_226.out
           have hcz14_0 : wr.cell? ⟨gb226, 0, none⟩ = some (.slice A0_0 l0_0.length c0_0) := (blk_cell BK226.out 0).trans rfl
           have hcz14_1 : wr.cell? ⟨gb226, 1, none⟩ = some (.int .i64 a0_1) := (blk_cell BK226.out 1).trans rfl
           have hcz14_2 : wr.cell? ⟨gb226, 2, none⟩ = some (.int .i64 a0_2) := (blk_cell BK226.out 2).trans rfl
           have hcz14_3 : wr.cell? ⟨gb226, 3, none⟩ = some (.string a0_3) := (blk_cell BK226.out 3).trans rfl
           have hfz14_0 := blk_frozen BK226.out 0
           have hfz14_1 := blk_frozen BK226.out 1
           have hfz14_2 := blk_frozen BK226.out 2
           have hfz14_3 := blk_frozen BK226.out 3
           have p228 : 0 ≤ (x5_1 : Int) := of_decide_eq_true (by first | (with_reducible assumption) | assumption)
           have q228 : x5_1 < (l0_0.length : Int) := of_decide_eq_true (by first | (with_reducible assumption) | assumption)
           obtain ⟨ad228, A228_0, c228_0, e228, hx228_0, hl228_0, hi228_0⟩ := at_L3 HR0_0.out x5_1 p228 q228
           cases e228
           replace hx228_0 := cl_ HB.out hx228_0
           have HR228_0 := Aside0.mk hi228_0
           have HC228_0 := Aside0.mk hl228_0
           clear hi228_0 hl228_0
           replace p228 := eq_true p228
           replace q228 := eq_true q228
           have p229 : 0 ≤ (x5_1 : Int) := of_decide_eq_true (by first | (with_reducible assumption) | assumption)
           have q229 : x5_1 < (l0_0.length : Int) := of_decide_eq_true (by first | (with_reducible assumption) | assumption)
           obtain ⟨ad229, A229_0, c229_0, e229, hx229_0, hl229_0, hi229_0⟩ := at_L3 HR0_0.out x5_1 p229 q229
           obtain rfl : ad228 = ad229 := (by injection e229)
           replace hx229_0 := cl_ HB.out hx229_0
           have HR229_0 := Aside0.mk hi229_0
           have HC229_0 := Aside0.mk hl229_0
           clear hi229_0 hl229_0
           replace p229 := eq_true p229
           replace q229 := eq_true q229
           have ea_ := Option.some.inj (hx228_0.symm.trans hx229_0)
           injection ea_ with ea_ en_ ec_
           subst ea_
           subst ec_
           clear en_
           have p230 : 0 ≤ (x6_2 : Int) := of_decide_eq_true (by first | (with_reducible assumption) | assumption)
           have q230 : x6_2 < ((rd_L3 l0_0 x5_1).length : Int) := of_decide_eq_true (by first | (with_reducible assumption) | assumption)
           obtain ⟨ad230, e230, hx230_0, hx230_1, hx230_2, hx230_3, hx230_4⟩ := at_T32 HR229_0.out x6_2 p230 q230
           cases e230
           replace hx230_0 := cl_ HB.out hx230_0
           replace hx230_1 := cl_ HB.out hx230_1
           replace hx230_2 := cl_ HB.out hx230_2
           replace hx230_3 := cl_ HB.out hx230_3
           replace hx230_4 := cl_ HB.out hx230_4
           replace p230 := eq_true p230
           replace q230 := eq_true q230
           have hcz15_0 : wr.cell? ⟨gb227, 0, none⟩ = some (.string a1_0) := (blk_cell BK227.out 0).trans rfl
           have hcz15_1 : wr.cell? ⟨gb227, 1, none⟩ = some (.int .i64 a1_1) := (blk_cell BK227.out 1).trans rfl
           have hcz15_2 : wr.cell? ⟨gb227, 2, none⟩ = some (.int .i64 a1_2) := (blk_cell BK227.out 2).trans rfl
           have hcz15_3 : wr.cell? ⟨gb227, 3, none⟩ = some (.string a1_3) := (blk_cell BK227.out 3).trans rfl
           have hcz15_4 : wr.cell? ⟨gb227, 4, none⟩ = some (.string a1_4) := (blk_cell BK227.out 4).trans rfl
           have hfz15_0 := blk_frozen BK227.out 0
           have hfz15_1 := blk_frozen BK227.out 1
           have hfz15_2 := blk_frozen BK227.out 2
           have hfz15_3 := blk_frozen BK227.out 3
           have hfz15_4 := blk_frozen BK227.out 4
           go_wp2
           repeat (go_quiet (fail); try go_wp2)
           go_ret
           exact ⟨by first | rfl | (simp [errW_none, errW_some] <;> rfl) | (simp [*, errW_none, errW_some] <;> rfl) | exact ret_ie _ | (simp [*, errW_none, errW_some, bne]; done), by repeat (first | (with_reducible first | exact HB.out | apply below_alloc | apply pw_below_drewN | apply below_drew1 | refine below_set ?_ GE226.out | refine below_set ?_ GE227.out) | exact HB.out)⟩
          ·
           rw [if_neg c12] at H
           have c12b0 : ((((rd_T32 (rd_L3 l0_0 x5_1) x6_2).f0).toList) == a1_0.toList && (((rd_T32 (rd_L3 l0_0 x5_1) x6_2).f1) == a1_1 && (((rd_T32 (rd_L3 l0_0 x5_1) x6_2).f2) == a1_2 && ((((rd_T32 (rd_L3 l0_0 x5_1) x6_2).f3).toList) == a1_3.toList && ((((rd_T32 (rd_L3 l0_0 x5_1) x6_2).f4).toList) == a1_4.toList))))) = false := by simpa using c12
           (try (have c12b1 : decide ((((rd_T32 (rd_L3 l0_0 x5_1) x6_2).f0).toList) = a1_0.toList && (((rd_T32 (rd_L3 l0_0 x5_1) x6_2).f1) == a1_1 && (((rd_T32 (rd_L3 l0_0 x5_1) x6_2).f2) == a1_2 && ((((rd_T32 (rd_L3 l0_0 x5_1) x6_2).f3).toList) == a1_3.toList && ((((rd_T32 (rd_L3 l0_0 x5_1) x6_2).f4).toList) == a1_4.toList))))) = false := by simpa using c12))
           (try (have c12b2 : ((((rd_T32 (rd_L3 l0_0 x5_1) x6_2).f0).toList) == a1_0.toList && (((rd_T32 (rd_L3 l0_0 x5_1) x6_2).f1) == a1_1 && (((rd_T32 (rd_L3 l0_0 x5_1) x6_2).f2) == a1_2 && ((((rd_T32 (rd_L3 l0_0 x5_1) x6_2).f3).toList) == a1_3.toList && ((((rd_T32 (rd_L3 l0_0 x5_1) x6_2).f4).toList) == a1_4.toList))))) = false := by simpa using c12))
           (try (have c12b3 : ¬ ((((rd_T32 (rd_L3 l0_0 x5_1) x6_2).f0).toList) = a1_0.toList && (((rd_T32 (rd_L3 l0_0 x5_1) x6_2).f1) == a1_1 && (((rd_T32 (rd_L3 l0_0 x5_1) x6_2).f2) == a1_2 && ((((rd_T32 (rd_L3 l0_0 x5_1) x6_2).f3).toList) == a1_3.toList && ((((rd_T32 (rd_L3 l0_0 x5_1) x6_2).f4).toList) == a1_4.toList))))) := by simpa using c12))
           clear c12
           have H' := Aside0.mk H
           clear H
           have hnb16 := NB226_227.out
           have hnc16 := NB227_226.out
           have hcz17_0 : wr.cell? ⟨gb226, 0, none⟩ = some (.slice A0_0 l0_0.length c0_0) := (blk_cell BK226.out 0).trans rfl
           have hcz17_1 : wr.cell? ⟨gb226, 1, none⟩ = some (.int .i64 a0_1) := (blk_cell BK226.out 1).trans rfl
           have hcz17_2 : wr.cell? ⟨gb226, 2, none⟩ = some (.int .i64 a0_2) := (blk_cell BK226.out 2).trans rfl
           have hcz17_3 : wr.cell? ⟨gb226, 3, none⟩ = some (.string a0_3) := (blk_cell BK226.out 3).trans rfl
           have hfz17_0 := blk_frozen BK226.out 0
           have hfz17_1 := blk_frozen BK226.out 1
           have hfz17_2 := blk_frozen BK226.out 2
           have hfz17_3 := blk_frozen BK226.out 3
           have p228 : 0 ≤ (x5_1 : Int) := of_decide_eq_true (by first | (with_reducible assumption) | assumption)
           have q228 : x5_1 < (l0_0.length : Int) := of_decide_eq_true (by first | (with_reducible assumption) | assumption)
           obtain ⟨ad228, A228_0, c228_0, e228, hx228_0, hl228_0, hi228_0⟩ := at_L3 HR0_0.out x5_1 p228 q228
           cases e228
           replace hx228_0 := cl_ HB.out hx228_0
           have HR228_0 := Aside0.mk hi228_0
           have HC228_0 := Aside0.mk hl228_0
           clear hi228_0 hl228_0
           replace p228 := eq_true p228
           replace q228 := eq_true q228
           have p229 : 0 ≤ (x5_1 : Int) := of_decide_eq_true (by first | (with_reducible assumption) | assumption)
           have q229 : x5_1 < (l0_0.length : Int) := of_decide_eq_true (by first | (with_reducible assumption) | assumption)
           obtain ⟨ad229, A229_0, c229_0, e229, hx229_0, hl229_0, hi229_0⟩ := at_L3 HR0_0.out x5_1 p229 q229
           obtain rfl : ad228 = ad229 := (by injection e229)
           replace hx229_0 := cl_ HB.out hx229_0
           have HR229_0 := Aside0.mk hi229_0
           have HC229_0 := Aside0.mk hl229_0
           clear hi229_0 hl229_0
           replace p229 := eq_true p229
           replace q229 := eq_true q229
           have ea_ := Option.some.inj (hx228_0.symm.trans hx229_0)
           injection ea_ with ea_ en_ ec_
           subst ea_
           subst ec_
           clear en_
           have p230 : 0 ≤ (x6_2 : Int) := of_decide_eq_true (by first | (with_reducible assumption) | assumption)
           have q230 : x6_2 < ((rd_L3 l0_0 x5_1).length : Int) := of_decide_eq_true (by first | (with_reducible assumption) | assumption)
           obtain ⟨ad230, e230, hx230_0, hx230_1, hx230_2, hx230_3, hx230_4⟩ := at_T32 HR229_0.out x6_2 p230 q230
           cases e230
           replace hx230_0 := cl_ HB.out hx230_0
           replace hx230_1 := cl_ HB.out hx230_1
           replace hx230_2 := cl_ HB.out hx230_2
           replace hx230_3 := cl_ HB.out hx230_3
           replace hx230_4 := cl_ HB.out hx230_4
           replace p230 := eq_true p230
           replace q230 := eq_true q230
           have hcz18_0 : wr.cell? ⟨gb227, 0, none⟩ = some (.string a1_0) := (blk_cell BK227.out 0).trans rfl
           have hcz18_1 : wr.cell? ⟨gb227, 1, none⟩ = some (.int .i64 a1_1) := (blk_cell BK227.out 1).trans rfl
           have hcz18_2 : wr.cell? ⟨gb227, 2, none⟩ = some (.int .i64 a1_2) := (blk_cell BK227.out 2).trans rfl
           have hcz18_3 : wr.cell? ⟨gb227, 3, none⟩ = some (.string a1_3) := (blk_cell BK227.out 3).trans rfl
           have hcz18_4 : wr.cell? ⟨gb227, 4, none⟩ = some (.string a1_4) := (blk_cell BK227.out 4).trans rfl
           have hfz18_0 := blk_frozen BK227.out 0
           have hfz18_1 := blk_frozen BK227.out 1
           have hfz18_2 := blk_frozen BK227.out 2
           have hfz18_3 := blk_frozen BK227.out 3
           have hfz18_4 := blk_frozen BK227.out 4
           go_wp2
           repeat (go_quiet (fail); try go_wp2)
           go_roundg k2
           case measure => have := HK1.out; have := HK2.out; omega
           case rel => exact ⟨(wrap64 (x6_2 + 1)), (by first | rfl | (simp; done) | (simp [*]; done)), H', ⟨by have := HK1.out; have := HK2.out; omega⟩, ⟨by (with_reducible repeat (first | refine blk_drewN ?_ _ | refine blk_drew ?_ | refine blk_alloc ?_ _)); exact BK226.out⟩, ⟨by (with_reducible repeat (first | refine blk_drewN ?_ _ | refine blk_drew ?_ | refine blk_alloc ?_ _)); exact BK227.out⟩, ⟨by repeat (first | (with_reducible first | exact HB.out | apply below_alloc | apply pw_below_drewN | apply below_drew1 | refine below_set ?_ GE226.out | refine below_set ?_ GE227.out) | exact HB.out)⟩⟩
         ·
          rw [if_neg c11] at H
          exact absurd H (by simp)
        ·
         rw [if_neg c10] at H
         have c10b0 : decide (x6_2 < ((rd_L3 l0_0 x5_1).length : Int)) = false := decide_eq_false c10
         clear c10
         have H' := Aside0.mk H
         clear H
         have hnb19 := NB226_227.out
         have hnc19 := NB227_226.out
         have hcz20_0 : wr.cell? ⟨gb226, 0, none⟩ = some (.slice A0_0 l0_0.length c0_0) := (blk_cell BK226.out 0).trans rfl
         have hcz20_1 : wr.cell? ⟨gb226, 1, none⟩ = some (.int .i64 a0_1) := (blk_cell BK226.out 1).trans rfl
         have hcz20_2 : wr.cell? ⟨gb226, 2, none⟩ = some (.int .i64 a0_2) := (blk_cell BK226.out 2).trans rfl
         have hcz20_3 : wr.cell? ⟨gb226, 3, none⟩ = some (.string a0_3) := (blk_cell BK226.out 3).trans rfl
         have hfz20_0 := blk_frozen BK226.out 0
         have hfz20_1 := blk_frozen BK226.out 1
         have hfz20_2 := blk_frozen BK226.out 2
         have hfz20_3 := blk_frozen BK226.out 3
         have p228 : 0 ≤ (x5_1 : Int) := of_decide_eq_true (by first | (with_reducible assumption) | assumption)
         have q228 : x5_1 < (l0_0.length : Int) := of_decide_eq_true (by first | (with_reducible assumption) | assumption)
         obtain ⟨ad228, A228_0, c228_0, e228, hx228_0, hl228_0, hi228_0⟩ := at_L3 HR0_0.out x5_1 p228 q228
         cases e228
         replace hx228_0 := cl_ HB.out hx228_0
         have HR228_0 := Aside0.mk hi228_0
         have HC228_0 := Aside0.mk hl228_0
         clear hi228_0 hl228_0
         replace p228 := eq_true p228
         replace q228 := eq_true q228
         go_wp2
         repeat (go_quiet (fail); try go_wp2)
         go_roundg k2
         case measure => have := HK1.out; have := HK2.out; omega
         case rel => exact ⟨(wrap64 (x5_1 + 1)), (by first | rfl | (simp; done) | (simp [*]; done)), H', ⟨by have := HK1.out; have := HK2.out; omega⟩, ⟨by (with_reducible repeat (first | refine blk_drewN ?_ _ | refine blk_drew ?_ | refine blk_alloc ?_ _)); exact BK226.out⟩, ⟨by (with_reducible repeat (first | refine blk_drewN ?_ _ | refine blk_drew ?_ | refine blk_alloc ?_ _)); exact BK227.out⟩, ⟨by repeat (first | (with_reducible first | exact HB.out | apply below_alloc | apply pw_below_drewN | apply below_drew1 | refine below_set ?_ GE226.out | refine below_set ?_ GE227.out) | exact HB.out)⟩⟩
       ·
        rw [if_neg c9] at H
        exact absurd H (by simp)
      ·
       rw [if_neg c8] at H
       exact absurd H (by simp)
   ·
    rw [if_neg c5] at H
    have c5b0 : decide (x5_1 < (l0_0.length : Int)) = false := decide_eq_false c5
    clear c5
    obtain rfl := Option.some.inj H
    have hnb21 := NB226_227.out
    have hnc21 := NB227_226.out
    have hcz22_0 : wr.cell? ⟨gb226, 0, none⟩ = some (.slice A0_0 l0_0.length c0_0) := (blk_cell BK226.out 0).trans rfl
    have hcz22_1 : wr.cell? ⟨gb226, 1, none⟩ = some (.int .i64 a0_1) := (blk_cell BK226.out 1).trans rfl
    have hcz22_2 : wr.cell? ⟨gb226, 2, none⟩ = some (.int .i64 a0_2) := (blk_cell BK226.out 2).trans rfl
    have hcz22_3 : wr.cell? ⟨gb226, 3, none⟩ = some (.string a0_3) := (blk_cell BK226.out 3).trans rfl
    have hfz22_0 := blk_frozen BK226.out 0
    have hfz22_1 := blk_frozen BK226.out 1
    have hfz22_2 := blk_frozen BK226.out 2
    have hfz22_3 := blk_frozen BK226.out 3
    go_wp2
    repeat (go_quiet (fail); try go_wp2)
    go_ret
    exact ⟨by first | rfl | (simp [errW_none, errW_some] <;> rfl) | (simp [*, errW_none, errW_some] <;> rfl) | exact ret_ie _ | (simp [*, errW_none, errW_some, bne]; done), by repeat (first | (with_reducible first | exact HB.out | apply below_alloc | apply pw_below_drewN | apply below_drew1 | refine below_set ?_ GE226.out | refine below_set ?_ GE227.out) | exact HB.out)⟩

end Go.Proofs.Ytdlghckcbbjipaa.R

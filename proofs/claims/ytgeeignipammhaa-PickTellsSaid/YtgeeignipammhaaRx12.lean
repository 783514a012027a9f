/- Contracts of Go functions and what they come to, over the translation of this seat: made by a program of this session (print2.py). -/
import Derived.Test.YtgeeignipammhaaOrd
import Derived.Test.YtgeeignipammhaaRx0
import Derived.Test.YtgeeignipammhaaRx11
namespace Go.Proofs.Ytgeeignipammhaa.R
open Go.RowKit Go.Proofs.Ytgeeignipammhaa.Co Go.Proofs.Ytgeeignipammhaa.Ret Go.Proofs.Ytgeeignipammhaa.Plain Go.Proofs.YtgeeignipammhaaW.PrintWords Go.Proofs.YtgeeignipammhaaW.PrintLast Go.Proofs.YtgeeignipammhaaW.PrintMore
attribute [local go_sem] max2_int min2_int max_two min_two max_three min_three max_four min_four   -- for this text's walks alone
set_option linter.unusedVariables false
set_option linter.unusedSimpArgs false

/-! ### millhandref18_Pick: function 16 -/
mutual
def millhandref18_Pick.j1 : Nat → Int → List (List (S28)) → Int → Int → ByteArray → Int → List (S28) → Option (Int × (List (S28)) × (List (S28)) × Int)
 | 0, _, _, _, _, _, _, _ => none
 | k + 1, x5, x216000, x216001, x216002, x216003, x220000, x220001 => if 0 < (x220001.length : Int) then (millhandref18_Pick.l1 k x5 ((rd_T28 x220001 0).f3) ((rd_T28 x220001 0).f4) 1 x216000 x216001 x216002 x216003 x220000 x220001) else (none)
def millhandref18_Pick.l1 : Nat → Int → ByteArray → ByteArray → Int → List (List (S28)) → Int → Int → ByteArray → Int → List (S28) → Option (Int × (List (S28)) × (List (S28)) × Int)
 | 0, _, _, _, _, _, _, _, _, _, _ => none
 | k + 1, x5, x8, x9, x10, x216000, x216001, x216002, x216003, x220000, x220001 => if x10 < (x220001.length : Int) then (if 0 ≤ x10 then (if (Op.bytesLess (((rd_T28 x220001 x10).f3).toList) x8.toList) = true then (if (Op.bytesLess x9.toList (((rd_T28 x220001 x10).f4).toList)) = true then (millhandref18_Pick.l1 k x5 ((rd_T28 x220001 x10).f3) ((rd_T28 x220001 x10).f4) (wrap64 (x10 + 1)) x216000 x216001 x216002 x216003 x220000 x220001) else (millhandref18_Pick.l1 k x5 ((rd_T28 x220001 x10).f3) x9 (wrap64 (x10 + 1)) x216000 x216001 x216002 x216003 x220000 x220001)) else (if (Op.bytesLess x9.toList (((rd_T28 x220001 x10).f4).toList)) = true then (millhandref18_Pick.l1 k x5 x8 ((rd_T28 x220001 x10).f4) (wrap64 (x10 + 1)) x216000 x216001 x216002 x216003 x220000 x220001) else (millhandref18_Pick.l1 k x5 x8 x9 (wrap64 (x10 + 1)) x216000 x216001 x216002 x216003 x220000 x220001))) else (none)) else (if 0 ≤ (wrap64 (x5 + 1)) then (if (wrap64 (x5 + 1)) < (x216000.length : Int) then ((millhandref16_Meet.f k (rd_L3 x216000 (wrap64 (x5 + 1))) x8 x9).bind fun t234 => (some (x220000, x220001, t234, 0))) else (none)) else (none))
def millhandref18_Pick.l0 : Nat → Int → Int → List (List (S28)) → Int → Int → ByteArray → Int → List (S28) → Option (Int × (List (S28)) × (List (S28)) × Int)
 | 0, _, _, _, _, _, _, _, _ => none
 | k + 1, x5, x7, x216000, x216001, x216002, x216003, x220000, x220001 => if 0 ≤ x5 then (if x5 < (x216000.length : Int) then (if x7 < ((rd_L3 x216000 x5).length : Int) then (if x5 = 0 then (if 0 ≤ x7 then (if x220001.length < 2199023255552 then (millhandref18_Pick.l0 k x5 (wrap64 (x7 + 1)) x216000 x216001 x216002 x216003 x220000 (x220001 ++ [(⟨(rd_T28 (rd_L3 x216000 x5) x7).f0, (rd_T28 (rd_L3 x216000 x5) x7).f1, (rd_T28 (rd_L3 x216000 x5) x7).f2, (rd_T28 (rd_L3 x216000 x5) x7).f3, (rd_T28 (rd_L3 x216000 x5) x7).f4⟩ : S28)])) else (none)) else (none)) else (if x7 = 0 then (if 0 ≤ x7 then (if x220001.length < 2199023255552 then (millhandref18_Pick.l0 k x5 (wrap64 (x7 + 1)) x216000 x216001 x216002 x216003 x220000 (x220001 ++ [(⟨(rd_T28 (rd_L3 x216000 x5) x7).f0, (rd_T28 (rd_L3 x216000 x5) x7).f1, (rd_T28 (rd_L3 x216000 x5) x7).f2, (rd_T28 (rd_L3 x216000 x5) x7).f3, (rd_T28 (rd_L3 x216000 x5) x7).f4⟩ : S28)])) else (none)) else (none)) else (millhandref18_Pick.j1 k x5 x216000 x216001 x216002 x216003 x220000 x220001))) else (millhandref18_Pick.j1 k x5 x216000 x216001 x216002 x216003 x220000 x220001)) else (none)) else (none)
end
def millhandref18_Pick.f (k : Nat) (l0_0 : List (List (S28))) (a0_1 : Int) (a0_2 : Int) (a0_3 : ByteArray) : Option (Int × (List (S28)) × (List (S28)) × Int) := (millhandref16_Check.f k l0_0 a0_1 a0_2 a0_3).bind fun t217 => (if t217 = 0 then ((millhandref18_fullest.f k l0_0 a0_1 a0_2 a0_3).bind fun t218 => (if t218 < 0 then (some (0, ([] : List (S28)), ([] : List (S28)), 6)) else (millhandref18_Pick.l0 k t218 0 l0_0 a0_1 a0_2 a0_3 t218 ([] : List (S28))))) else (some (0, ([] : List (S28)), ([] : List (S28)), t217)))
def millhandref18_Pick.T11 : Bool × List (List Nat × List Nat) := (true, [([], []), ([0], [0]), ([], []), ([2], [2]), ([], []), ([3, 4], [3, 4]), ([5], [5]), ([], []), ([6, 7], [6, 7]), ([8], [8]), ([9], [9]), ([1, 10], [1, 10]), ([0, 1, 2, 3, 4, 5, 6, 7, 8, 9, 10, 11], []), ([12, 11, 11, 0, 1, 2, 3, 4, 5, 6, 7, 8, 9, 10, 11], [11, 12])])
def millhandref18_Pick.B11 : List Nat := [0, 1, 0, 4, 0, 28, 60, 0, 252, 508, 1020, 2047, 4095, 8191]
theorem millhandref18_Pick.tab11 : rtab .any (opsOf Try.f16 11) = millhandref18_Pick.T11 := by kernel_rfl
theorem millhandref18_Pick.bits11 : waitsOk millhandref18_Pick.T11.2 millhandref18_Pick.B11 = true := by kernel_rfl
set_option maxHeartbeats 8000000 in
set_option maxRecDepth 100000 in
theorem millhandref18_Pick.calls (k : Nat) (A0_0 : Option Addr) (c0_0 : Nat) (l0_0 : List (List (S28))) (a0_1 : Int) (a0_2 : Int) (a0_3 : ByteArray) (r1 : Int) (r2 : List (S28)) (r3 : List (S28)) (r4 : Int) (w : World) (hr0_0 : Kd.C (Kd.slice 28 k28) w A0_0 l0_0.length l0_0) (hc0_0 : l0_0.length ≤ c0_0) (h : millhandref18_Pick.f k l0_0 a0_1 a0_2 a0_3 = some (r1, r2, r3, r4)) :
  Calls Try.prog 16 #[.agg #[.slice A0_0 l0_0.length c0_0, .int .i64 a0_1, .int .i64 a0_2, .string a0_3]] w fun e w' => ∃ v1_ v2_ : Value, e = .returned (.tuple #[.agg #[.int .i64 r1, v1_, v2_], .int .i64 r4]) ∧ Kd.R k28 28 w' w.heap.size (fun k_ => some k_ ≠ (v2_ : Value).ownBlock) v1_ r2 ∧ Kd.R k28 28 w' w.heap.size (fun k_ => some k_ ≠ (v1_ : Value).ownBlock) v2_ r3 ∧ Below w.heap.size w w' := by
 have gq1_ := @Ord.gtr_
 have gq2_ := @Ord.leq_
 have gq3_ := @Ord.geq_
 have hu24 := Try.underlying24
 have hu31 := Try.underlying31
 have hu28 := Try.underlying28
 have HR0_0 := Aside0.mk hr0_0
 have HC0_0 := Aside0.mk hc0_0
 clear hr0_0 hc0_0
 have HB := Aside0.mk (Below.refl w.heap.size w)
 have H : ((millhandref16_Check.f k l0_0 a0_1 a0_2 a0_3).bind fun t217 => (if t217 = 0 then ((millhandref18_fullest.f k l0_0 a0_1 a0_2 a0_3).bind fun t218 => (if t218 < 0 then (some (0, ([] : List (S28)), ([] : List (S28)), 6)) else (millhandref18_Pick.l0 k t218 0 l0_0 a0_1 a0_2 a0_3 t218 ([] : List (S28))))) else (some (0, ([] : List (S28)), ([] : List (S28)), t217)))) = some (r1, r2, r3, r4) := h
 clear h
 replace H := Option.bind_eq_some_iff.mp H
 obtain ⟨t217, A20, H⟩ := H
 replace H : (if t217 = 0 then ((millhandref18_fullest.f k l0_0 a0_1 a0_2 a0_3).bind fun t218 => (if t218 < 0 then (some (0, ([] : List (S28)), ([] : List (S28)), 6)) else (millhandref18_Pick.l0 k t218 0 l0_0 a0_1 a0_2 a0_3 t218 ([] : List (S28))))) else (some (0, ([] : List (S28)), ([] : List (S28)), t217))) = some (r1, r2, r3, r4) := H
 have A2 := Aside0.mk A20
 clear A20
 by_cases c3 : t217 = 0
 ·
  rw [if_pos c3] at H
  have c3b0 : (t217 == 0) = true := beq_iff_eq.mpr c3
  have c3b1 : (t217 != 0) = false := bne_eq_false_iff_eq.mpr c3
  clear c3
  replace H := Option.bind_eq_some_iff.mp H
  obtain ⟨t218, A40, H⟩ := H
  replace H : (if t218 < 0 then (some (0, ([] : List (S28)), ([] : List (S28)), 6)) else (millhandref18_Pick.l0 k t218 0 l0_0 a0_1 a0_2 a0_3 t218 ([] : List (S28)))) = some (r1, r2, r3, r4) := H
  have A4 := Aside0.mk A40
  clear A40
  by_cases c5 : t218 < 0
  ·
   rw [if_pos c5] at H
   have c5b0 : decide (t218 < 0) = true := decide_eq_true c5
   clear c5
   simp only [Option.some.injEq, Prod.mk.injEq] at H
   obtain ⟨rfl, rfl, rfl, rfl⟩ := H
   go_enter Try.func16, Try.ntmps16
   go_wp2_with (first | ((with_reducible refine gate_dst (N := 1) rfl ?_); refine box_event ?hg (N := 1) ?hd (cs := #[.slice A0_0 l0_0.length c0_0, .int .i64 a0_1, .int .i64 a0_2, .string a0_3]) (t := 24) ?hr ?_; (case hd => rfl); (case hg => rfl); (case hr => first | (go_simp; done) | (go_simp; rfl)); intro gb215 hg w6 hbox hb; have n0_ := Aside0.mk (below_step (by repeat (first | (with_reducible first | exact HB.out | apply below_alloc | apply pw_below_drewN | apply below_drew1) | exact HB.out)) hb); have n1_ := Aside0.mk (hbox); have n2_ := Aside0.mk ((by rw [hg]; exact (below_size (by repeat (first | (with_reducible first | exact HB.out | apply below_alloc | apply pw_below_drewN | apply below_drew1) | exact HB.out))) : w.heap.size ≤ gb215)); have n3_ := Aside0.mk ((by rw [hg]; exact (below_size (by repeat (first | (with_reducible first | exact HB.out | apply below_alloc | apply pw_below_drewN | apply below_drew1) | exact HB.out))) : w.heap.size ≤ gb215)); clear HB; have HB := n0_; have BK215 := n1_; have GW215 := n2_; have GE215 := n3_; clear n0_ n1_ n2_ n3_; clear hb hbox hg) | ((with_reducible refine gate_dst (N := 2) rfl ?_); refine box_event ?hg (N := 2) ?hd (cs := #[.int .i64 0, .slice none 0 0, .slice none 0 0]) (t := 31) ?hr ?_; (case hd => rfl); (case hg => rfl); (case hr => first | (go_simp; done) | (go_simp; rfl)); intro gb216 hg w7 hbox hb; have n0_ := Aside0.mk (blk_below (g := gb215) (o := .cells #[.slice A0_0 l0_0.length c0_0, .int .i64 a0_1, .int .i64 a0_2, .string a0_3] 24 (0, 0)) (by (with_reducible repeat (first | refine blk_drewN ?_ _ | refine blk_drew ?_ | refine blk_alloc ?_ _)); exact BK215.out) hb); have n1_ := Aside0.mk (below_step (by repeat (first | (with_reducible first | exact HB.out | apply below_alloc | apply pw_below_drewN | apply below_drew1 | refine below_set ?_ GE215.out) | exact HB.out)) hb); have n2_ := Aside0.mk (hbox); have n3_ := Aside0.mk ((by rw [hg]; exact (below_size (by repeat (first | (with_reducible first | exact HB.out | apply below_alloc | apply pw_below_drewN | apply below_drew1 | refine below_set ?_ GE215.out) | exact HB.out))) : w.heap.size ≤ gb216)); have n4_ := Aside0.mk ((by rw [hg]; exact (below_size (by repeat (first | (with_reducible first | exact HB.out | apply below_alloc | apply pw_below_drewN | apply below_drew1 | refine below_set ?_ GE215.out) | exact HB.out))) : w.heap.size ≤ gb216)); have n5_ := Aside0.mk ((by rw [hg]; exact Nat.ne_of_lt (blk_lt (g := gb215) (o := .cells #[.slice A0_0 l0_0.length c0_0, .int .i64 a0_1, .int .i64 a0_2, .string a0_3] 24 (0, 0)) (by (with_reducible repeat (first | refine blk_drewN ?_ _ | refine blk_drew ?_ | refine blk_alloc ?_ _)); exact BK215.out)) : gb215 ≠ gb216)); have n6_ := Aside0.mk ((by rw [hg]; exact Nat.ne_of_gt (blk_lt (g := gb215) (o := .cells #[.slice A0_0 l0_0.length c0_0, .int .i64 a0_1, .int .i64 a0_2, .string a0_3] 24 (0, 0)) (by (with_reducible repeat (first | refine blk_drewN ?_ _ | refine blk_drew ?_ | refine blk_alloc ?_ _)); exact BK215.out)) : gb216 ≠ gb215)); clear BK215; clear HB; have BK215 := n0_; have HB := n1_; have BK216 := n2_; have GW216 := n3_; have GE216 := n4_; have NB215_216 := n5_; have NB216_215 := n6_; clear n0_ n1_ n2_ n3_ n4_ n5_ n6_; clear hb hbox hg; have hnb8 := NB215_216.out; have hnc8 := NB216_215.out; have hcz9_0 : w7.cell? ⟨gb215, 0, none⟩ = some (.slice A0_0 l0_0.length c0_0) := (blk_cell BK215.out 0).trans rfl; have hcz9_1 : w7.cell? ⟨gb215, 1, none⟩ = some (.int .i64 a0_1) := (blk_cell BK215.out 1).trans rfl; have hcz9_2 : w7.cell? ⟨gb215, 2, none⟩ = some (.int .i64 a0_2) := (blk_cell BK215.out 2).trans rfl; have hcz9_3 : w7.cell? ⟨gb215, 3, none⟩ = some (.string a0_3) := (blk_cell BK215.out 3).trans rfl; have hfz9_0 := blk_frozen BK215.out 0; have hfz9_1 := blk_frozen BK215.out 1; have hfz9_2 := blk_frozen BK215.out 2; have hfz9_3 := blk_frozen BK215.out 3) | ((with_reducible refine gate_callee (f := 26) rfl ?_); refine goesL_ (some 12) rfl rfl Try.func26 (by kernel_rfl) rfl #[.agg #[.slice A0_0 l0_0.length c0_0, .int .i64 a0_1, .int .i64 a0_2, .string a0_3]] rfl (by (try simp only [List.map_toArray, List.map_cons, List.map_nil]); first | done | rfl | (simp only [List.length_drop, List.length_take]; rfl)) ?_; (with_reducible refine (millhandref16_Check.calls k _ _ l0_0 a0_1 a0_2 a0_3 t217 _ ?side1 ?side2 A2.out).mono ?_); (case side1 => repeat (first | exact (Kd.C_below HR0_0.out HB.out) | (with_reducible refine Kd.C_alloc ?_ _) | (with_reducible refine Kd.C_drewN ?_ _) | (with_reducible refine Kd.C_drew ?_))); (case side2 => exact HC0_0.out); rintro e w10 ⟨rfl, hb⟩; refine ⟨_, rfl, ?_⟩; have n0_ := Aside0.mk (blk_below (g := gb215) (o := .cells #[.slice A0_0 l0_0.length c0_0, .int .i64 a0_1, .int .i64 a0_2, .string a0_3] 24 (0, 0)) (by (with_reducible repeat (first | refine blk_drewN ?_ _ | refine blk_drew ?_ | refine blk_alloc ?_ _)); exact BK215.out) hb); have n1_ := Aside0.mk (blk_below (g := gb216) (o := .cells #[.int .i64 0, .slice none 0 0, .slice none 0 0] 31 (0, 0)) (by (with_reducible repeat (first | refine blk_drewN ?_ _ | refine blk_drew ?_ | refine blk_alloc ?_ _)); exact BK216.out) hb); have n2_ := Aside0.mk (below_step (by repeat (first | (with_reducible first | exact HB.out | apply below_alloc | apply pw_below_drewN | apply below_drew1 | refine below_set ?_ GE215.out | refine below_set ?_ GE216.out) | exact HB.out)) hb); clear BK215; clear BK216; clear HB; have BK215 := n0_; have BK216 := n1_; have HB := n2_; clear n0_ n1_ n2_; (try clear hb); (try clear hb2); (try clear hk); (try clear hi); have hcz11_0 : w10.cell? ⟨gb215, 0, none⟩ = some (.slice A0_0 l0_0.length c0_0) := (blk_cell BK215.out 0).trans rfl; have hcz11_1 : w10.cell? ⟨gb215, 1, none⟩ = some (.int .i64 a0_1) := (blk_cell BK215.out 1).trans rfl; have hcz11_2 : w10.cell? ⟨gb215, 2, none⟩ = some (.int .i64 a0_2) := (blk_cell BK215.out 2).trans rfl; have hcz11_3 : w10.cell? ⟨gb215, 3, none⟩ = some (.string a0_3) := (blk_cell BK215.out 3).trans rfl; have hfz11_0 := blk_frozen BK215.out 0; have hfz11_1 := blk_frozen BK215.out 1; have hfz11_2 := blk_frozen BK215.out 2; have hfz11_3 := blk_frozen BK215.out 3) | ((with_reducible refine gate_callee (f := 28) rfl ?_); refine goesL_ (some 18) rfl rfl Try.func28 (by kernel_rfl) rfl #[.agg #[.slice A0_0 l0_0.length c0_0, .int .i64 a0_1, .int .i64 a0_2, .string a0_3]] rfl (by (try simp only [List.map_toArray, List.map_cons, List.map_nil]); first | done | rfl | (simp only [List.length_drop, List.length_take]; rfl)) ?_; (with_reducible refine (millhandref18_fullest.calls k _ _ l0_0 a0_1 a0_2 a0_3 t218 _ ?side1 ?side2 A4.out).mono ?_); (case side1 => repeat (first | exact (Kd.C_below HR0_0.out HB.out) | (with_reducible refine Kd.C_alloc ?_ _) | (with_reducible refine Kd.C_drewN ?_ _) | (with_reducible refine Kd.C_drew ?_))); (case side2 => exact HC0_0.out); rintro e w12 ⟨rfl, hb⟩; refine ⟨_, rfl, ?_⟩; have n0_ := Aside0.mk (blk_below (g := gb215) (o := .cells #[.slice A0_0 l0_0.length c0_0, .int .i64 a0_1, .int .i64 a0_2, .string a0_3] 24 (0, 0)) (by (with_reducible repeat (first | refine blk_drewN ?_ _ | refine blk_drew ?_ | refine blk_alloc ?_ _)); exact BK215.out) hb); have n1_ := Aside0.mk (blk_below (g := gb216) (o := .cells #[.int .i64 0, .slice none 0 0, .slice none 0 0] 31 (0, 0)) (by (with_reducible repeat (first | refine blk_drewN ?_ _ | refine blk_drew ?_ | refine blk_alloc ?_ _)); exact BK216.out) hb); have n2_ := Aside0.mk (below_step (by repeat (first | (with_reducible first | exact HB.out | apply below_alloc | apply pw_below_drewN | apply below_drew1 | refine below_set ?_ GE215.out | refine below_set ?_ GE216.out) | exact HB.out)) hb); clear BK215; clear BK216; clear HB; have BK215 := n0_; have BK216 := n1_; have HB := n2_; clear n0_ n1_ n2_; (try clear hb); (try clear hb2); (try clear hk); (try clear hi); have hcz13_0 : w12.cell? ⟨gb216, 0, none⟩ = some (.int .i64 0) := (blk_cell BK216.out 0).trans rfl; have hcz13_1 : w12.cell? ⟨gb216, 1, none⟩ = some (.slice none 0 0) := (blk_cell BK216.out 1).trans rfl; have hcz13_2 : w12.cell? ⟨gb216, 2, none⟩ = some (.slice none 0 0) := (blk_cell BK216.out 2).trans rfl; have hfz13_0 := blk_frozen BK216.out 0; have hfz13_1 := blk_frozen BK216.out 1; have hfz13_2 := blk_frozen BK216.out 2))
   refine bodyPost_ret (results_ct rfl _ _ gb216 31 #[.int .i64 0, .slice none 0 0, .slice none 0 0] (0, 0) _ rfl (by (with_reducible repeat (first | refine blk_drewN ?_ _ | refine blk_drew ?_ | refine blk_alloc ?_ _)); refine blk_put (cs := #[.int .i64 0, .slice none 0 0, .slice none 0 0]) ?_ 2 _ rfl; (with_reducible repeat (first | refine blk_drewN ?_ _ | refine blk_drew ?_ | refine blk_alloc ?_ _)); refine blk_put (cs := #[.int .i64 0, .slice none 0 0, .slice none 0 0]) ?_ 1 _ rfl; (with_reducible repeat (first | refine blk_drewN ?_ _ | refine blk_drew ?_ | refine blk_alloc ?_ _)); refine blk_put (cs := #[.int .i64 0, .slice none 0 0, .slice none 0 0]) ?_ 0 _ rfl; (with_reducible repeat (first | refine blk_drewN ?_ _ | refine blk_drew ?_ | refine blk_alloc ?_ _)); exact BK216.out) Try.underlying31 rfl (by kernel_rfl)) rfl ?_
   exact ⟨_, _, by first | rfl | (simp [errW_none, errW_some] <;> rfl) | (simp [*, errW_none, errW_some] <;> rfl) | exact ret_ie _ | (simp [*, errW_none, errW_some, bne]; done), by first | exact Kd.R_nil _ _ _ _ _ | exact Kd.N_nil _ _ _ _ _ | exact Kd.V_nil _ _ _ _ _ | exact Kd.Q_nil _ _ _ _ _ | exact Kd.S_nil _ _ _ _ _, by first | exact Kd.R_nil _ _ _ _ _ | exact Kd.N_nil _ _ _ _ _ | exact Kd.V_nil _ _ _ _ _ | exact Kd.Q_nil _ _ _ _ _ | exact Kd.S_nil _ _ _ _ _, by repeat (first | (with_reducible first | exact HB.out | apply below_alloc | apply pw_below_drewN | apply below_drew1 | refine below_set ?_ GE215.out | refine below_set ?_ GE216.out) | exact HB.out)⟩
  ·
   rw [if_neg c5] at H
   have c5b0 : decide (t218 < 0) = false := decide_eq_false c5
   clear c5
   have HC14 := Aside0.mk H
   clear H
   go_enter Try.func16, Try.ntmps16
   go_upto_block 0 with (first | ((with_reducible refine gate_dst (N := 1) rfl ?_); refine box_event ?hg (N := 1) ?hd (cs := #[.slice A0_0 l0_0.length c0_0, .int .i64 a0_1, .int .i64 a0_2, .string a0_3]) (t := 24) ?hr ?_; (case hd => rfl); (case hg => rfl); (case hr => first | (go_simp; done) | (go_simp; rfl)); intro gb215 hg w15 hbox hb; have n0_ := Aside0.mk (below_step (by repeat (first | (with_reducible first | exact HB.out | apply below_alloc | apply pw_below_drewN | apply below_drew1) | exact HB.out)) hb); have n1_ := Aside0.mk (hbox); have n2_ := Aside0.mk ((by rw [hg]; exact (below_size (by repeat (first | (with_reducible first | exact HB.out | apply below_alloc | apply pw_below_drewN | apply below_drew1) | exact HB.out))) : w.heap.size ≤ gb215)); have n3_ := Aside0.mk ((by rw [hg]; exact (below_size (by repeat (first | (with_reducible first | exact HB.out | apply below_alloc | apply pw_below_drewN | apply below_drew1) | exact HB.out))) : w.heap.size ≤ gb215)); clear HB; have HB := n0_; have BK215 := n1_; have GW215 := n2_; have GE215 := n3_; clear n0_ n1_ n2_ n3_; clear hb hbox hg) | ((with_reducible refine gate_dst (N := 2) rfl ?_); refine box_event ?hg (N := 2) ?hd (cs := #[.int .i64 0, .slice none 0 0, .slice none 0 0]) (t := 31) ?hr ?_; (case hd => rfl); (case hg => rfl); (case hr => first | (go_simp; done) | (go_simp; rfl)); intro gb216 hg w16 hbox hb; have n0_ := Aside0.mk (blk_below (g := gb215) (o := .cells #[.slice A0_0 l0_0.length c0_0, .int .i64 a0_1, .int .i64 a0_2, .string a0_3] 24 (0, 0)) (by (with_reducible repeat (first | refine blk_drewN ?_ _ | refine blk_drew ?_ | refine blk_alloc ?_ _)); exact BK215.out) hb); have n1_ := Aside0.mk (below_step (by repeat (first | (with_reducible first | exact HB.out | apply below_alloc | apply pw_below_drewN | apply below_drew1 | refine below_set ?_ GE215.out) | exact HB.out)) hb); have n2_ := Aside0.mk (hbox); have n3_ := Aside0.mk ((by rw [hg]; exact (below_size (by repeat (first | (with_reducible first | exact HB.out | apply below_alloc | apply pw_below_drewN | apply below_drew1 | refine below_set ?_ GE215.out) | exact HB.out))) : w.heap.size ≤ gb216)); have n4_ := Aside0.mk ((by rw [hg]; exact (below_size (by repeat (first | (with_reducible first | exact HB.out | apply below_alloc | apply pw_below_drewN | apply below_drew1 | refine below_set ?_ GE215.out) | exact HB.out))) : w.heap.size ≤ gb216)); have n5_ := Aside0.mk ((by rw [hg]; exact Nat.ne_of_lt (blk_lt (g := gb215) (o := .cells #[.slice A0_0 l0_0.length c0_0, .int .i64 a0_1, .int .i64 a0_2, .string a0_3] 24 (0, 0)) (by (with_reducible repeat (first | refine blk_drewN ?_ _ | refine blk_drew ?_ | refine blk_alloc ?_ _)); exact BK215.out)) : gb215 ≠ gb216)); have n6_ := Aside0.mk ((by rw [hg]; exact Nat.ne_of_gt (blk_lt (g := gb215) (o := .cells #[.slice A0_0 l0_0.length c0_0, .int .i64 a0_1, .int .i64 a0_2, .string a0_3] 24 (0, 0)) (by (with_reducible repeat (first | refine blk_drewN ?_ _ | refine blk_drew ?_ | refine blk_alloc ?_ _)); exact BK215.out)) : gb216 ≠ gb215)); clear BK215; clear HB; have BK215 := n0_; have HB := n1_; have BK216 := n2_; have GW216 := n3_; have GE216 := n4_; have NB215_216 := n5_; have NB216_215 := n6_; clear n0_ n1_ n2_ n3_ n4_ n5_ n6_; clear hb hbox hg; have hnb17 := NB215_216.out; have hnc17 := NB216_215.out; have hcz18_0 : w16.cell? ⟨gb215, 0, none⟩ = some (.slice A0_0 l0_0.length c0_0) := (blk_cell BK215.out 0).trans rfl; have hcz18_1 : w16.cell? ⟨gb215, 1, none⟩ = some (.int .i64 a0_1) := (blk_cell BK215.out 1).trans rfl; have hcz18_2 : w16.cell? ⟨gb215, 2, none⟩ = some (.int .i64 a0_2) := (blk_cell BK215.out 2).trans rfl; have hcz18_3 : w16.cell? ⟨gb215, 3, none⟩ = some (.string a0_3) := (blk_cell BK215.out 3).trans rfl; have hfz18_0 := blk_frozen BK215.out 0; have hfz18_1 := blk_frozen BK215.out 1; have hfz18_2 := blk_frozen BK215.out 2; have hfz18_3 := blk_frozen BK215.out 3) | ((with_reducible refine gate_callee (f := 26) rfl ?_); refine goesL_ (some 12) rfl rfl Try.func26 (by kernel_rfl) rfl #[.agg #[.slice A0_0 l0_0.length c0_0, .int .i64 a0_1, .int .i64 a0_2, .string a0_3]] rfl (by (try simp only [List.map_toArray, List.map_cons, List.map_nil]); first | done | rfl | (simp only [List.length_drop, List.length_take]; rfl)) ?_; (with_reducible refine (millhandref16_Check.calls k _ _ l0_0 a0_1 a0_2 a0_3 t217 _ ?side1 ?side2 A2.out).mono ?_); (case side1 => repeat (first | exact (Kd.C_below HR0_0.out HB.out) | (with_reducible refine Kd.C_alloc ?_ _) | (with_reducible refine Kd.C_drewN ?_ _) | (with_reducible refine Kd.C_drew ?_))); (case side2 => exact HC0_0.out); rintro e w19 ⟨rfl, hb⟩; refine ⟨_, rfl, ?_⟩; have n0_ := Aside0.mk (blk_below (g := gb215) (o := .cells #[.slice A0_0 l0_0.length c0_0, .int .i64 a0_1, .int .i64 a0_2, .string a0_3] 24 (0, 0)) (by (with_reducible repeat (first | refine blk_drewN ?_ _ | refine blk_drew ?_ | refine blk_alloc ?_ _)); exact BK215.out) hb); have n1_ := Aside0.mk (blk_below (g := gb216) (o := .cells #[.int .i64 0, .slice none 0 0, .slice none 0 0] 31 (0, 0)) (by (with_reducible repeat (first | refine blk_drewN ?_ _ | refine blk_drew ?_ | refine blk_alloc ?_ _)); exact BK216.out) hb); have n2_ := Aside0.mk (below_step (by repeat (first | (with_reducible first | exact HB.out | apply below_alloc | apply pw_below_drewN | apply below_drew1 | refine below_set ?_ GE215.out | refine below_set ?_ GE216.out) | exact HB.out)) hb); clear BK215; clear BK216; clear HB; have BK215 := n0_; have BK216 := n1_; have HB := n2_; clear n0_ n1_ n2_; (try clear hb); (try clear hb2); (try clear hk); (try clear hi); have hcz20_0 : w19.cell? ⟨gb215, 0, none⟩ = some (.slice A0_0 l0_0.length c0_0) := (blk_cell BK215.out 0).trans rfl; have hcz20_1 : w19.cell? ⟨gb215, 1, none⟩ = some (.int .i64 a0_1) := (blk_cell BK215.out 1).trans rfl; have hcz20_2 : w19.cell? ⟨gb215, 2, none⟩ = some (.int .i64 a0_2) := (blk_cell BK215.out 2).trans rfl; have hcz20_3 : w19.cell? ⟨gb215, 3, none⟩ = some (.string a0_3) := (blk_cell BK215.out 3).trans rfl; have hfz20_0 := blk_frozen BK215.out 0; have hfz20_1 := blk_frozen BK215.out 1; have hfz20_2 := blk_frozen BK215.out 2; have hfz20_3 := blk_frozen BK215.out 3) | ((with_reducible refine gate_callee (f := 28) rfl ?_); refine goesL_ (some 18) rfl rfl Try.func28 (by kernel_rfl) rfl #[.agg #[.slice A0_0 l0_0.length c0_0, .int .i64 a0_1, .int .i64 a0_2, .string a0_3]] rfl (by (try simp only [List.map_toArray, List.map_cons, List.map_nil]); first | done | rfl | (simp only [List.length_drop, List.length_take]; rfl)) ?_; (with_reducible refine (millhandref18_fullest.calls k _ _ l0_0 a0_1 a0_2 a0_3 t218 _ ?side1 ?side2 A4.out).mono ?_); (case side1 => repeat (first | exact (Kd.C_below HR0_0.out HB.out) | (with_reducible refine Kd.C_alloc ?_ _) | (with_reducible refine Kd.C_drewN ?_ _) | (with_reducible refine Kd.C_drew ?_))); (case side2 => exact HC0_0.out); rintro e w21 ⟨rfl, hb⟩; refine ⟨_, rfl, ?_⟩; have n0_ := Aside0.mk (blk_below (g := gb215) (o := .cells #[.slice A0_0 l0_0.length c0_0, .int .i64 a0_1, .int .i64 a0_2, .string a0_3] 24 (0, 0)) (by (with_reducible repeat (first | refine blk_drewN ?_ _ | refine blk_drew ?_ | refine blk_alloc ?_ _)); exact BK215.out) hb); have n1_ := Aside0.mk (blk_below (g := gb216) (o := .cells #[.int .i64 0, .slice none 0 0, .slice none 0 0] 31 (0, 0)) (by (with_reducible repeat (first | refine blk_drewN ?_ _ | refine blk_drew ?_ | refine blk_alloc ?_ _)); exact BK216.out) hb); have n2_ := Aside0.mk (below_step (by repeat (first | (with_reducible first | exact HB.out | apply below_alloc | apply pw_below_drewN | apply below_drew1 | refine below_set ?_ GE215.out | refine below_set ?_ GE216.out) | exact HB.out)) hb); clear BK215; clear BK216; clear HB; have BK215 := n0_; have BK216 := n1_; have HB := n2_; clear n0_ n1_ n2_; (try clear hb); (try clear hb2); (try clear hk); (try clear hi)) | ((with_reducible refine gate_dst (N := 6) rfl ?_); refine box_event ?hg (N := 6) ?hd (cs := #[.int .i64 0, .slice none 0 0, .slice none 0 0]) (t := 31) ?hr ?_; (case hd => rfl); (case hg => rfl); (case hr => first | (go_simp; done) | (go_simp; rfl)); intro gb219 hg w22 hbox hb; have n0_ := Aside0.mk (blk_below (g := gb215) (o := .cells #[.slice A0_0 l0_0.length c0_0, .int .i64 a0_1, .int .i64 a0_2, .string a0_3] 24 (0, 0)) (by (with_reducible repeat (first | refine blk_drewN ?_ _ | refine blk_drew ?_ | refine blk_alloc ?_ _)); exact BK215.out) hb); have n1_ := Aside0.mk (blk_below (g := gb216) (o := .cells #[.int .i64 0, .slice none 0 0, .slice none 0 0] 31 (0, 0)) (by (with_reducible repeat (first | refine blk_drewN ?_ _ | refine blk_drew ?_ | refine blk_alloc ?_ _)); exact BK216.out) hb); have n2_ := Aside0.mk (below_step (by repeat (first | (with_reducible first | exact HB.out | apply below_alloc | apply pw_below_drewN | apply below_drew1 | refine below_set ?_ GE215.out | refine below_set ?_ GE216.out) | exact HB.out)) hb); have n3_ := Aside0.mk (hbox); have n4_ := Aside0.mk ((by rw [hg]; exact (below_size (by repeat (first | (with_reducible first | exact HB.out | apply below_alloc | apply pw_below_drewN | apply below_drew1 | refine below_set ?_ GE215.out | refine below_set ?_ GE216.out) | exact HB.out))) : w.heap.size ≤ gb219)); have n5_ := Aside0.mk ((by rw [hg]; exact (below_size (by repeat (first | (with_reducible first | exact HB.out | apply below_alloc | apply pw_below_drewN | apply below_drew1 | refine below_set ?_ GE215.out | refine below_set ?_ GE216.out) | exact HB.out))) : w.heap.size ≤ gb219)); have n6_ := Aside0.mk ((by rw [hg]; exact Nat.ne_of_lt (blk_lt (g := gb215) (o := .cells #[.slice A0_0 l0_0.length c0_0, .int .i64 a0_1, .int .i64 a0_2, .string a0_3] 24 (0, 0)) (by (with_reducible repeat (first | refine blk_drewN ?_ _ | refine blk_drew ?_ | refine blk_alloc ?_ _)); exact BK215.out)) : gb215 ≠ gb219)); have n7_ := Aside0.mk ((by rw [hg]; exact Nat.ne_of_gt (blk_lt (g := gb215) (o := .cells #[.slice A0_0 l0_0.length c0_0, .int .i64 a0_1, .int .i64 a0_2, .string a0_3] 24 (0, 0)) (by (with_reducible repeat (first | refine blk_drewN ?_ _ | refine blk_drew ?_ | refine blk_alloc ?_ _)); exact BK215.out)) : gb219 ≠ gb215)); have n8_ := Aside0.mk ((by rw [hg]; exact Nat.ne_of_lt (blk_lt (g := gb216) (o := .cells #[.int .i64 0, .slice none 0 0, .slice none 0 0] 31 (0, 0)) (by (with_reducible repeat (first | refine blk_drewN ?_ _ | refine blk_drew ?_ | refine blk_alloc ?_ _)); exact BK216.out)) : gb216 ≠ gb219)); have n9_ := Aside0.mk ((by rw [hg]; exact Nat.ne_of_gt (blk_lt (g := gb216) (o := .cells #[.int .i64 0, .slice none 0 0, .slice none 0 0] 31 (0, 0)) (by (with_reducible repeat (first | refine blk_drewN ?_ _ | refine blk_drew ?_ | refine blk_alloc ?_ _)); exact BK216.out)) : gb219 ≠ gb216)); clear BK215; clear BK216; clear HB; have BK215 := n0_; have BK216 := n1_; have HB := n2_; have BK219 := n3_; have GW219 := n4_; have GE219 := n5_; have NB215_219 := n6_; have NB219_215 := n7_; have NB216_219 := n8_; have NB219_216 := n9_; clear n0_ n1_ n2_ n3_ n4_ n5_ n6_ n7_ n8_ n9_; clear hb hbox hg; have hnb23 := NB219_215.out; have hnc23 := NB215_219.out; have hnb24 := NB219_216.out; have hnc24 := NB216_219.out; have hcz25_0 : w22.cell? ⟨gb219, 0, none⟩ = some (.int .i64 0) := (blk_cell BK219.out 0).trans rfl; have hcz25_1 : w22.cell? ⟨gb219, 1, none⟩ = some (.slice none 0 0) := (blk_cell BK219.out 1).trans rfl; have hcz25_2 : w22.cell? ⟨gb219, 2, none⟩ = some (.slice none 0 0) := (blk_cell BK219.out 2).trans rfl; have hfz25_0 := blk_frozen BK219.out 0; have hfz25_1 := blk_frozen BK219.out 1; have hfz25_2 := blk_frozen BK219.out 2))
   (try simp only [Act.put, sa_, s0_, s1_])
   go_cut [] (fun wc => ∃ (kq : Nat) (x220001_13 : List (S28)) (u220001 : Value), Aside0 (millhandref18_Pick.j1 kq t218 l0_0 a0_1 a0_2 a0_3 t218 x220001_13 = some (r1, r2, r3, r4)) ∧ Aside0 (kq ≤ k) ∧ Aside0 (Kd.R k28 28 wc w.heap.size (fun _ => True) u220001 x220001_13) ∧ Aside0 (wc.heap[gb215]? = some (.cells #[(.slice A0_0 l0_0.length c0_0), .int .i64 a0_1, .int .i64 a0_2, .string a0_3] 24 (0, 0))) ∧ Aside0 (wc.heap[gb216]? = some (.cells #[.int .i64 0, (.slice none 0 0), (.slice none 0 0)] 31 (0, 0))) ∧ Aside0 (wc.heap[gb219]? = some (.cells #[.int .i64 t218, u220001, (.slice none 0 0)] 31 (0, 0))) ∧ Aside0 (Below w.heap.size w wc))
   case first =>
    have H := HC14.out
    clear HC14
    have H' := Aside0.mk H
    clear H
    go_wp2
    go_loopg [7] k (fun kq v7 w' => ∃ (x7_1 : Int) (x220001_1 : List (S28)) (u220001 : Value), v7 = .int .i64 x7_1 ∧ Aside0 (millhandref18_Pick.l0 kq t218 x7_1 l0_0 a0_1 a0_2 a0_3 t218 x220001_1 = some (r1, r2, r3, r4)) ∧ Aside0 (kq ≤ k) ∧ Aside0 (Kd.R k28 28 w' w.heap.size (fun _ => True) u220001 x220001_1) ∧ Aside0 (w'.heap[gb215]? = some (.cells #[(.slice A0_0 l0_0.length c0_0), .int .i64 a0_1, .int .i64 a0_2, .string a0_3] 24 (0, 0))) ∧ Aside0 (w'.heap[gb216]? = some (.cells #[.int .i64 0, (.slice none 0 0), (.slice none 0 0)] 31 (0, 0))) ∧ Aside0 (w'.heap[gb219]? = some (.cells #[.int .i64 t218, u220001, (.slice none 0 0)] 31 (0, 0))) ∧ Aside0 (Below w.heap.size w w'))
    case atStart => exact ⟨(0), (([] : List (S28))), (.slice none 0 0), (by first | rfl | (simp; done) | (simp [*]; done)), H', ⟨Nat.le_refl _⟩, ⟨by first | exact Kd.R_nil _ _ _ _ _ | exact Kd.N_nil _ _ _ _ _ | exact Kd.V_nil _ _ _ _ _ | exact Kd.Q_nil _ _ _ _ _ | exact Kd.S_nil _ _ _ _ _⟩, ⟨by (with_reducible repeat (first | refine blk_drewN ?_ _ | refine blk_drew ?_ | refine blk_alloc ?_ _)); refine blk_far ?_ NB215_219.out _; (with_reducible repeat (first | refine blk_drewN ?_ _ | refine blk_drew ?_ | refine blk_alloc ?_ _)); refine blk_far ?_ NB215_219.out _; (with_reducible repeat (first | refine blk_drewN ?_ _ | refine blk_drew ?_ | refine blk_alloc ?_ _)); refine blk_far ?_ NB215_219.out _; (with_reducible repeat (first | refine blk_drewN ?_ _ | refine blk_drew ?_ | refine blk_alloc ?_ _)); exact BK215.out⟩, ⟨by (with_reducible repeat (first | refine blk_drewN ?_ _ | refine blk_drew ?_ | refine blk_alloc ?_ _)); refine blk_far ?_ NB216_219.out _; (with_reducible repeat (first | refine blk_drewN ?_ _ | refine blk_drew ?_ | refine blk_alloc ?_ _)); refine blk_far ?_ NB216_219.out _; (with_reducible repeat (first | refine blk_drewN ?_ _ | refine blk_drew ?_ | refine blk_alloc ?_ _)); refine blk_far ?_ NB216_219.out _; (with_reducible repeat (first | refine blk_drewN ?_ _ | refine blk_drew ?_ | refine blk_alloc ?_ _)); exact BK216.out⟩, ⟨by (with_reducible repeat (first | refine blk_drewN ?_ _ | refine blk_drew ?_ | refine blk_alloc ?_ _)); refine blk_put (cs := #[.int .i64 t218, .slice none 0 0, .slice none 0 0]) ?_ 2 _ rfl; (with_reducible repeat (first | refine blk_drewN ?_ _ | refine blk_drew ?_ | refine blk_alloc ?_ _)); refine blk_put (cs := #[.int .i64 t218, .slice none 0 0, .slice none 0 0]) ?_ 1 _ rfl; (with_reducible repeat (first | refine blk_drewN ?_ _ | refine blk_drew ?_ | refine blk_alloc ?_ _)); refine blk_put (cs := #[.int .i64 0, .slice none 0 0, .slice none 0 0]) ?_ 0 _ rfl; (with_reducible repeat (first | refine blk_drewN ?_ _ | refine blk_drew ?_ | refine blk_alloc ?_ _)); exact BK219.out⟩, ⟨by repeat (first | (with_reducible first | exact HB.out | apply below_alloc | apply pw_below_drewN | apply below_drew1 | refine below_set ?_ GE215.out | refine below_set ?_ GE216.out | refine below_set ?_ GE219.out) | exact HB.out)⟩⟩
    case round =>
     clear H'
     try clear c1
     try clear c2
     try clear p2
     try clear c3
     try clear c3b0
     try clear c3b1
     try clear c5
     try clear c5b0
     try clear c8
     try clear c16
     try clear c17
     try clear c23
     try clear c24
     try clear hcz11_0
     try clear hcz11_1
     try clear hcz11_2
     try clear hcz11_3
     try clear hcz13_0
     try clear hcz13_1
     try clear hcz13_2
     try clear hcz18_0
     try clear hcz18_1
     try clear hcz18_2
     try clear hcz18_3
     try clear hcz20_0
     try clear hcz20_1
     try clear hcz20_2
     try clear hcz20_3
     try clear hcz25_0
     try clear hcz25_1
     try clear hcz25_2
     try clear hcz9_0
     try clear hcz9_1
     try clear hcz9_2
     try clear hcz9_3
     try clear hfz11_0
     try clear hfz11_1
     try clear hfz11_2
     try clear hfz11_3
     try clear hfz13_0
     try clear hfz13_1
     try clear hfz13_2
     try clear hfz18_0
     try clear hfz18_1
     try clear hfz18_2
     try clear hfz18_3
     try clear hfz20_0
     try clear hfz20_1
     try clear hfz20_2
     try clear hfz20_3
     try clear hfz25_0
     try clear hfz25_1
     try clear hfz25_2
     try clear hfz9_0
     try clear hfz9_1
     try clear hfz9_2
     try clear hfz9_3
     obtain ⟨x7_1, x220001_1, u220001, rfl, HA, HK1, HO_220001, BK215, BK216, BK219, HB⟩ := hrel
     cases gk with
     | zero => exact absurd HA.out (by simp [millhandref18_Pick.l0])
     | succ k1 =>
      have H := HA.out
      clear HA
      simp only [millhandref18_Pick.l0] at H
      by_cases c26 : 0 ≤ t218
      ·
       rw [if_pos c26] at H
       have c26b0 : decide (0 ≤ t218) = true := decide_eq_true c26
       clear c26
       (first | rw [c26b0] | (simp only [i64_w, i32_w]; rw [c26b0]) | skip)
       by_cases c27 : t218 < (l0_0.length : Int)
       ·
        rw [if_pos c27] at H
        have c27b0 : decide (t218 < (l0_0.length : Int)) = true := decide_eq_true c27
        clear c27
        by_cases c28 : x7_1 < ((rd_L3 l0_0 t218).length : Int)
        ·
         rw [if_pos c28] at H
         have c28b0 : decide (x7_1 < ((rd_L3 l0_0 t218).length : Int)) = true := decide_eq_true c28
         clear c28
         by_cases c29 : t218 = 0
         ·
          rw [if_pos c29] at H
          have c29b0 : (t218 == 0) = true := beq_iff_eq.mpr c29
          have c29b1 : (t218 != 0) = false := bne_eq_false_iff_eq.mpr c29
          clear c29
          by_cases c30 : 0 ≤ x7_1
          ·
           rw [if_pos c30] at H
           have c30b0 : decide (0 ≤ x7_1) = true := decide_eq_true c30
           clear c30
           by_cases c31 : x220001_1.length < 2199023255552
           ·
            rw [if_pos c31] at H
            have LMc31 := Aside0.mk c31
            clear c31
            obtain ⟨y223, hy223⟩ : ∃ y_ : List (S28), y_ = (x220001_1 ++ [(⟨(rd_T28 (rd_L3 l0_0 t218) x7_1).f0, (rd_T28 (rd_L3 l0_0 t218) x7_1).f1, (rd_T28 (rd_L3 l0_0 t218) x7_1).f2, (rd_T28 (rd_L3 l0_0 t218) x7_1).f3, (rd_T28 (rd_L3 l0_0 t218) x7_1).f4⟩ : S28)]) := ⟨_, rfl⟩
            replace H : (millhandref18_Pick.l0 k1 t218 (wrap64 (x7_1 + 1)) l0_0 a0_1 a0_2 a0_3 t218 y223) = some (r1, r2, r3, r4) := by first | (rw [hy223]; with_reducible exact H) | (have H2_ := (Option.bind_some _ _).symm.trans H; rw [hy223]; with_reducible exact H2_) | (have H2_ := (Option.bind_some _ _).symm.trans H; with_reducible exact H2_) | with_reducible exact H | (rw [hy223]; exact H) | exact H
            have Ny223 := Aside0.mk hy223
            clear hy223
            have H' := Aside0.mk H
            clear H
            have hnb32 := NB215_216.out
            have hnc32 := NB216_215.out
            have hnb33 := NB215_219.out
            have hnc33 := NB219_215.out
            have hcz34_0 : wr.cell? ⟨gb215, 0, none⟩ = some (.slice A0_0 l0_0.length c0_0) := (blk_cell BK215.out 0).trans rfl
            have hcz34_1 : wr.cell? ⟨gb215, 1, none⟩ = some (.int .i64 a0_1) := (blk_cell BK215.out 1).trans rfl
            have hcz34_2 : wr.cell? ⟨gb215, 2, none⟩ = some (.int .i64 a0_2) := (blk_cell BK215.out 2).trans rfl
            have hcz34_3 : wr.cell? ⟨gb215, 3, none⟩ = some (.string a0_3) := (blk_cell BK215.out 3).trans rfl
            have hfz34_0 := blk_frozen BK215.out 0
            have hfz34_1 := blk_frozen BK215.out 1
            have hfz34_2 := blk_frozen BK215.out 2
            have hfz34_3 := blk_frozen BK215.out 3
            have p220 : 0 ≤ (t218 : Int) := of_decide_eq_true (by first | (with_reducible assumption) | assumption)
            have q220 : t218 < (l0_0.length : Int) := of_decide_eq_true (by first | (with_reducible assumption) | assumption)
            obtain ⟨ad220, A220_0, c220_0, e220, hx220_0, hl220_0, hi220_0⟩ := at_L3 HR0_0.out t218 p220 q220
            cases e220
            replace hx220_0 := cl_ HB.out hx220_0
            have HR220_0 := Aside0.mk hi220_0
            have HC220_0 := Aside0.mk hl220_0
            clear hi220_0 hl220_0
            replace p220 := eq_true p220
            replace q220 := eq_true q220
            try go_wp2
            have n0_ := Aside0.mk (Kd.R_drew HO_220001.out)
            have n1_ := Aside0.mk (blk_drew BK215.out)
            have n2_ := Aside0.mk (blk_drew BK216.out)
            have n3_ := Aside0.mk (blk_drew BK219.out)
            have n4_ := Aside0.mk (below_drew1 HB.out)
            clear HO_220001
            clear BK215
            clear BK216
            clear BK219
            clear HB
            have HO_220001 := n0_
            have BK215 := n1_
            have BK216 := n2_
            have BK219 := n3_
            have HB := n4_
            clear n0_ n1_ n2_ n3_ n4_
            have p221 : 0 ≤ (t218 : Int) := of_decide_eq_true (by first | (with_reducible assumption) | assumption)
            have q221 : t218 < (l0_0.length : Int) := of_decide_eq_true (by first | (with_reducible assumption) | assumption)
            obtain ⟨ad221, A221_0, c221_0, e221, hx221_0, hl221_0, hi221_0⟩ := at_L3 HR0_0.out t218 p221 q221
            have hw221_0 := hx221_0
            obtain rfl : ad220 = ad221 := (by injection e221)
            replace hx221_0 := cl_ HB.out hx221_0
            have HR221_0 := Aside0.mk hi221_0
            have HC221_0 := Aside0.mk hl221_0
            clear hi221_0 hl221_0
            replace p221 := eq_true p221
            replace q221 := eq_true q221
            have p222 : 0 ≤ (x7_1 : Int) := of_decide_eq_true (by first | (with_reducible assumption) | assumption)
            have q222 : x7_1 < ((rd_L3 l0_0 t218).length : Int) := of_decide_eq_true (by first | (with_reducible assumption) | assumption)
            obtain ⟨ad222, e222, hx222_0, hx222_1, hx222_2, hx222_3, hx222_4⟩ := at_T28 HR221_0.out x7_1 p222 q222
            have hw222_4 := hx222_4
            have hw222_3 := hx222_3
            have hw222_2 := hx222_2
            have hw222_1 := hx222_1
            have hw222_0 := hx222_0
            cases e222
            replace hx222_0 := cl_ HB.out hx222_0
            replace hx222_1 := cl_ HB.out hx222_1
            replace hx222_2 := cl_ HB.out hx222_2
            replace hx222_3 := cl_ HB.out hx222_3
            replace hx222_4 := cl_ HB.out hx222_4
            replace p222 := eq_true p222
            replace q222 := eq_true q222
            refine start_ (n := 14) (S := fun w' => w'.cell? ⟨gb219, 0, none⟩ = some (.int .i64 t218) ∧ w'.cell? ⟨gb219, 1, none⟩ = some (u220001) ∧ w'.cell? ⟨gb219, 2, none⟩ = some (.slice none 0 0) ∧ w'.cell? ⟨gb215, 0, none⟩ = some (.slice (some ad220) l0_0.length c0_0) ∧ w'.cell? ⟨gb215, 1, none⟩ = some (.int .i64 a0_1) ∧ w'.cell? ⟨gb215, 2, none⟩ = some (.int .i64 a0_2) ∧ w'.cell? ⟨gb215, 3, none⟩ = some (.string a0_3) ∧ w'.cell? (ad220.add (t218).toNat) = some (.slice (some ad222) (rd_L3 l0_0 t218).length c221_0) ∧ w'.cell? (ad222.add ((x7_1).toNat * 5)) = some (.string ((rd_T28 (rd_L3 l0_0 t218) x7_1).f0)) ∧ w'.cell? ⟨(ad222.add ((x7_1).toNat * 5)).block, (ad222.add ((x7_1).toNat * 5)).off + 1, none⟩ = some (.int .i64 ((rd_T28 (rd_L3 l0_0 t218) x7_1).f1)) ∧ w'.cell? ⟨(ad222.add ((x7_1).toNat * 5)).block, (ad222.add ((x7_1).toNat * 5)).off + 2, none⟩ = some (.int .i64 ((rd_T28 (rd_L3 l0_0 t218) x7_1).f2)) ∧ w'.cell? ⟨(ad222.add ((x7_1).toNat * 5)).block, (ad222.add ((x7_1).toNat * 5)).off + 3, none⟩ = some (.string ((rd_T28 (rd_L3 l0_0 t218) x7_1).f3)) ∧ w'.cell? ⟨(ad222.add ((x7_1).toNat * 5)).block, (ad222.add ((x7_1).toNat * 5)).off + 4, none⟩ = some (.string ((rd_T28 (rd_L3 l0_0 t218) x7_1).f4))) (ds := [13]) (b_ 14 0) (by kernel_rfl) rfl rfl ⟨(blk_cell BK219.out 0).trans rfl, (blk_cell BK219.out 1).trans rfl, (blk_cell BK219.out 2).trans rfl, (blk_cell BK215.out 0).trans rfl, (blk_cell BK215.out 1).trans rfl, (blk_cell BK215.out 2).trans rfl, (blk_cell BK215.out 3).trans rfl, (cl_ HB.out hw221_0), (cl_ HB.out hw222_0), (cl_ HB.out hw222_1), (cl_ HB.out hw222_2), (cl_ HB.out hw222_3), (cl_ HB.out hw222_4)⟩ (fun hHeld => ?_); refine with_tabW millhandref18_Pick.tab11 millhandref18_Pick.bits11 (fun HT_ HW_ => ?_)
            generalize wr.drew = w35 at HO_220001 BK215 BK216 BK219 HB HR221_0 hx221_0 hx222_0 hx222_1 hx222_2 hx222_3 hx222_4 hHeld ⊢
            refine pA_ 0 42 ?_ (b_ 14 1) (any_of HT_.out (by kernel_rfl)) rfl rfl (fun _ _ _ h => h) (by rfl) ?_ ?_ ?_ ?_
            rotate_left
            ·
             intro w'
             go_simp
             with_reducible rfl
            rotate_left
            ·
             simp only [Act.put, sa_, s0_, s1_, i64_w, i32_w]
             rfl
            refine pA_ 2 44 ?_ (b_ 14 5) (any_of HT_.out (by kernel_rfl)) rfl rfl (fun _ _ _ h => h) (by rfl) ?_ ?_ ?_ ?_
            rotate_left
            ·
             intro w'
             go_simp
             with_reducible rfl
            rotate_left
            ·
             simp only [Act.put, sa_, s0_, s1_, i64_w, i32_w]
             rfl
            refine pA_ 4 46 ?_ (b_ 14 21) (any_of HT_.out (by kernel_rfl)) rfl rfl (fun _ _ _ h => h) (by rfl) ?_ ?_ ?_ ?_
            rotate_left
            ·
             intro w'
             go_simp
             with_reducible rfl
            rotate_left
            ·
             simp only [Act.put, sa_, s0_, s1_, i64_w, i32_w]
             rfl
            refine pA_ 7 49 ?_ (b_ 14 149) (any_of HT_.out (by kernel_rfl)) rfl rfl (fun _ _ _ h => h) (by rfl) ?_ ?_ ?_ ?_
            rotate_left
            ·
             intro w'
             go_simp
             with_reducible rfl
            rotate_left
            ·
             simp only [Act.put, sa_, s0_, s1_, i64_w, i32_w]
             rfl
            refine tA_ 1 43 ?_ (b_ 14 151) (take_ofW HT_.out HW_.out (by kernel_rfl)) rfl rfl (fun _ _ _ h => h) (by rfl) ?_ hHeld ?_ ?_ ?_
            rotate_left
            ·
             rintro w' ⟨s0, s1, s2, s3, s4, s5, s6, s7, s8, s9, s10, s11, s12⟩
             go_simp
             with_reducible rfl
            rotate_left
            ·
             simp only [Act.put, sa_, s0_, s1_, i64_w, i32_w]
             rfl
            refine tA_ 3 45 ?_ (b_ 14 159) (take_ofW HT_.out HW_.out (by kernel_rfl)) rfl rfl (fun _ _ _ h => h) (by rfl) ?_ hHeld ?_ ?_ ?_
            rotate_left
            ·
             rintro w' ⟨s0, s1, s2, s3, s4, s5, s6, s7, s8, s9, s10, s11, s12⟩
             go_simp
             with_reducible rfl
            rotate_left
            ·
             simp only [Act.put, sa_, s0_, s1_, i64_w, i32_w]
             rfl
            refine pA_ 5 47 ?_ (b_ 14 191) (any_of HT_.out (by kernel_rfl)) rfl rfl (fun _ _ _ h => h) (by rfl) ?_ ?_ ?_ ?_
            rotate_left
            ·
             intro w'
             go_simp
             with_reducible rfl
            rotate_left
            ·
             simp only [Act.put, sa_, s0_, s1_, i64_w, i32_w]
             rfl
            refine tA_ 6 48 ?_ (b_ 14 255) (take_ofW HT_.out HW_.out (by kernel_rfl)) rfl rfl (fun _ _ _ h => h) (by rfl) ?_ hHeld ?_ ?_ ?_
            rotate_left
            ·
             rintro w' ⟨s0, s1, s2, s3, s4, s5, s6, s7, s8, s9, s10, s11, s12⟩
             go_simp
             with_reducible rfl
            rotate_left
            ·
             simp only [Act.put, sa_, s0_, s1_, i64_w, i32_w]
             rfl
            refine pA_ 8 50 ?_ (b_ 14 511) (any_of HT_.out (by kernel_rfl)) rfl rfl (fun _ _ _ h => h) (by rfl) ?_ ?_ ?_ ?_
            rotate_left
            ·
             intro w'
             go_simp
             with_reducible rfl
            rotate_left
            ·
             simp only [Act.put, sa_, s0_, s1_, i64_w, i32_w]
             rfl
            refine tA_ 9 51 ?_ (b_ 14 1023) (take_ofW HT_.out HW_.out (by kernel_rfl)) rfl rfl (fun _ _ _ h => h) (by rfl) ?_ hHeld ?_ ?_ ?_
            rotate_left
            ·
             rintro w' ⟨s0, s1, s2, s3, s4, s5, s6, s7, s8, s9, s10, s11, s12⟩
             go_simp
             with_reducible rfl
            rotate_left
            ·
             simp only [Act.put, sa_, s0_, s1_, i64_w, i32_w]
             rfl
            refine one_ (i := 10) (N := some 52) (b_ 14 2047) rfl rfl (one_of HT_.out (by kernel_rfl)) (by decide) (fun K hK => ?_)
            refine value_ (w1 := ?_) (v := ?_) (by rfl) rfl ?_ ?_
            rotate_left 2
            ·
             go_simp
             constructor
             ·
              rfl
             ·
              rfl
            refine hK.out _ _ ⟨(blk_cell (blk_alloc BK219.out _) 0).trans rfl, (blk_cell (blk_alloc BK219.out _) 1).trans rfl, (blk_cell (blk_alloc BK219.out _) 2).trans rfl, (blk_cell (blk_alloc BK215.out _) 0).trans rfl, (blk_cell (blk_alloc BK215.out _) 1).trans rfl, (blk_cell (blk_alloc BK215.out _) 2).trans rfl, (blk_cell (blk_alloc BK215.out _) 3).trans rfl, (World.cell?_alloc_lt _ _ _ (World.block_lt_of_cell? _ _ (((HB.out.cell (World.block_lt_of_cell? w _ hw221_0)).trans hw221_0)))).trans (((HB.out.cell (World.block_lt_of_cell? w _ hw221_0)).trans hw221_0)), (World.cell?_alloc_lt _ _ _ (World.block_lt_of_cell? _ _ (((HB.out.cell (World.block_lt_of_cell? w _ hw222_0)).trans hw222_0)))).trans (((HB.out.cell (World.block_lt_of_cell? w _ hw222_0)).trans hw222_0)), (World.cell?_alloc_lt _ _ _ (World.block_lt_of_cell? _ _ (((HB.out.cell (World.block_lt_of_cell? w _ hw222_1)).trans hw222_1)))).trans (((HB.out.cell (World.block_lt_of_cell? w _ hw222_1)).trans hw222_1)), (World.cell?_alloc_lt _ _ _ (World.block_lt_of_cell? _ _ (((HB.out.cell (World.block_lt_of_cell? w _ hw222_2)).trans hw222_2)))).trans (((HB.out.cell (World.block_lt_of_cell? w _ hw222_2)).trans hw222_2)), (World.cell?_alloc_lt _ _ _ (World.block_lt_of_cell? _ _ (((HB.out.cell (World.block_lt_of_cell? w _ hw222_3)).trans hw222_3)))).trans (((HB.out.cell (World.block_lt_of_cell? w _ hw222_3)).trans hw222_3)), (World.cell?_alloc_lt _ _ _ (World.block_lt_of_cell? _ _ (((HB.out.cell (World.block_lt_of_cell? w _ hw222_4)).trans hw222_4)))).trans (((HB.out.cell (World.block_lt_of_cell? w _ hw222_4)).trans hw222_4))⟩ (fun hHeld => ?_)
            clear hK K
            refine norm_ (a' := ?_) ?_ ?_
            rotate_left
            ·
             show Act.put _ (some 52) _ = _
             simp only [Act.put, sa_, s0_, s1_, i64_w, i32_w]
             rfl
            refine one_ (i := 11) (N := some 53) (b_ 14 4095) rfl rfl (one_of HT_.out (by kernel_rfl)) (by decide) (fun K hK => ?_)
            refine Kd.R_append_step k28 (w0 := w) w.heap.size (by rfl) (.tmp 43) (.tmp 52) 26 28 (.agg #[(.string ⟨#[]⟩), (.int .i64 0), (.int .i64 0), (.string ⟨#[]⟩), (.string ⟨#[]⟩)]) 64 rfl Try.underlying26 info28 rfl (by decide) (by omega) u220001 x220001_1 (⟨(rd_T28 (rd_L3 l0_0 t218) x7_1).f0, (rd_T28 (rd_L3 l0_0 t218) x7_1).f1, (rd_T28 (rd_L3 l0_0 t218) x7_1).f2, (rd_T28 (rd_L3 l0_0 t218) x7_1).f3, (rd_T28 (rd_L3 l0_0 t218) x7_1).f4⟩ : S28) [.string ((rd_T28 (rd_L3 l0_0 t218) x7_1).f0), .int .i64 ((rd_T28 (rd_L3 l0_0 t218) x7_1).f1), .int .i64 ((rd_T28 (rd_L3 l0_0 t218) x7_1).f2), .string ((rd_T28 (rd_L3 l0_0 t218) x7_1).f3), .string ((rd_T28 (rd_L3 l0_0 t218) x7_1).f4)] (fun _ => True) (fun _ => False) rfl rfl ?aP (fun _ hk => hk.elim) ?aF ?aO ?aB ?aS ?aL ?_
            (case aP => exact k28_mkM _ _ _ (⟨(rd_T28 (rd_L3 l0_0 t218) x7_1).f0, (rd_T28 (rd_L3 l0_0 t218) x7_1).f1, (rd_T28 (rd_L3 l0_0 t218) x7_1).f2, (rd_T28 (rd_L3 l0_0 t218) x7_1).f3, (rd_T28 (rd_L3 l0_0 t218) x7_1).f4⟩ : S28))
            (case aB => exact (by repeat (first | (with_reducible first | exact HB.out | apply below_alloc | apply pw_below_drewN | apply below_drew1 | refine below_set ?_ GE215.out | refine below_set ?_ GE216.out | refine below_set ?_ GE219.out) | exact HB.out)))
            (case aF => exact (fun _ _ => trivial))
            (case aO => exact (by (with_reducible repeat (first | apply Kd.R_alloc | apply Kd.R_drewN | apply Kd.R_drew)); exact HO_220001.out))
            (case aS => exact (below_size (by repeat (first | (with_reducible first | exact HB.out | apply below_alloc | apply pw_below_drewN | apply below_drew1 | refine below_set ?_ GE215.out | refine below_set ?_ GE216.out | refine below_set ?_ GE219.out) | exact HB.out))))
            (case aL => have := LMc31.out; omega)
            intro v224 w36 ho hb hg hat
            rw [← Ny223.out] at ho
            have n0_ := Aside0.mk (blk_grown (g := gb215) (o := .cells #[.slice (some ad220) l0_0.length c0_0, .int .i64 a0_1, .int .i64 a0_2, .string a0_3] 24 (0, 0)) (by (with_reducible repeat (first | refine blk_drewN ?_ _ | refine blk_drew ?_ | refine blk_alloc ?_ _)); exact BK215.out) hg (Kd.R_ne HO_220001.out BK215.out (by decide)))
            have n1_ := Aside0.mk (blk_grown (g := gb216) (o := .cells #[.int .i64 0, .slice none 0 0, .slice none 0 0] 31 (0, 0)) (by (with_reducible repeat (first | refine blk_drewN ?_ _ | refine blk_drew ?_ | refine blk_alloc ?_ _)); exact BK216.out) hg (Kd.R_ne HO_220001.out BK216.out (by decide)))
            have n2_ := Aside0.mk (blk_grown (g := gb219) (o := .cells #[.int .i64 t218, u220001, .slice none 0 0] 31 (0, 0)) (by (with_reducible repeat (first | refine blk_drewN ?_ _ | refine blk_drew ?_ | refine blk_alloc ?_ _)); exact BK219.out) hg (Kd.R_ne HO_220001.out BK219.out (by decide)))
            have n3_ := Aside0.mk (hb)
            have n4_ := Aside0.mk (ho)
            clear BK215
            clear BK216
            clear BK219
            clear HB
            clear HO_220001
            have BK215 := n0_
            have BK216 := n1_
            have BK219 := n2_
            have HB := n3_
            have HO225 := n4_
            clear n0_ n1_ n2_ n3_ n4_
            clear ho hb hg hat
            obtain ⟨Ao37, co37, eo37⟩ := Kd.R_slice HO225.out
            (first | subst eo37 | (injection eo37 with f1_ f2_ f3_; have f4_ := f1_.symm; have f5_ := f3_.symm; clear f1_ f2_ f3_; subst f4_; subst f5_))
            refine hK.out _ _ ⟨(blk_cell BK219.out 0).trans rfl, (blk_cell BK219.out 1).trans rfl, (blk_cell BK219.out 2).trans rfl, (blk_cell BK215.out 0).trans rfl, (blk_cell BK215.out 1).trans rfl, (blk_cell BK215.out 2).trans rfl, (blk_cell BK215.out 3).trans rfl, ((HB.out.cell (World.block_lt_of_cell? w _ hw221_0)).trans hw221_0), ((HB.out.cell (World.block_lt_of_cell? w _ hw222_0)).trans hw222_0), ((HB.out.cell (World.block_lt_of_cell? w _ hw222_1)).trans hw222_1), ((HB.out.cell (World.block_lt_of_cell? w _ hw222_2)).trans hw222_2), ((HB.out.cell (World.block_lt_of_cell? w _ hw222_3)).trans hw222_3), ((HB.out.cell (World.block_lt_of_cell? w _ hw222_4)).trans hw222_4)⟩ (fun hHeld => ?_)
            clear hK K
            refine norm_ (a' := ?_) ?_ ?_
            rotate_left
            ·
             show Act.put _ (some 53) _ = _
             simp only [Act.put, sa_, s0_, s1_, i64_w, i32_w]
             rfl
            refine pA_ 12 54 ?_ (b_ 14 8191) (any_of HT_.out (by kernel_rfl)) rfl rfl (fun _ _ _ h => h) (by rfl) ?_ ?_ ?_ ?_
            rotate_left
            ·
             intro w'
             go_simp
             with_reducible rfl
            rotate_left
            ·
             simp only [Act.put, sa_, s0_, s1_, i64_w, i32_w]
             rfl
            refine last_ (i := 13) (N := none) (b_ 14 16383) rfl rfl (one_of HT_.out (by kernel_rfl)) (by decide) (fun K hK => ?_)
            have hs38 : w36.cell? ⟨gb219, 1, none⟩ = some (u220001) := (blk_cell BK219.out 1).trans rfl
            have hfs38 := blk_frozen BK219.out 1
            have hns38_0 := NB215_219.out
            have hns38_1 := NB216_219.out
            have hms38_0 := NB219_215.out
            have hms38_1 := NB219_216.out
            refine skip_ (w1 := ?_) (by rfl) rfl ?_ ?_
            rotate_left
            ·
             go_simp
             rfl
            refine hK.out _ _ ?_
            clear hK K
            refine done_ (done_of HT_.out (by kernel_rfl)) ?_
            try go_wp2
            go_roundg k1
            case measure => have := HK1.out; omega
            case rel => exact ⟨(wrap64 (x7_1 + 1)), (y223), (.slice Ao37 y223.length co37), (by first | rfl | (simp; done) | (simp [*]; done)), H', ⟨by have := HK1.out; omega⟩, ⟨by (with_reducible repeat (first | apply Kd.R_alloc | apply Kd.R_drewN | apply Kd.R_drew)); exact Kd.R_mono (Kd.R_far (p := ⟨gb219, 1, none⟩) (Kd.R_types HO225.out BK219.out (by decide)) (fun _ hk => hk.2) (.slice Ao37 y223.length co37)) (fun _ hk => trivial)⟩, ⟨by (with_reducible repeat (first | refine blk_drewN ?_ _ | refine blk_drew ?_ | refine blk_alloc ?_ _)); refine blk_far ?_ NB215_219.out _; (with_reducible repeat (first | refine blk_drewN ?_ _ | refine blk_drew ?_ | refine blk_alloc ?_ _)); exact BK215.out⟩, ⟨by (with_reducible repeat (first | refine blk_drewN ?_ _ | refine blk_drew ?_ | refine blk_alloc ?_ _)); refine blk_far ?_ NB216_219.out _; (with_reducible repeat (first | refine blk_drewN ?_ _ | refine blk_drew ?_ | refine blk_alloc ?_ _)); exact BK216.out⟩, ⟨by (with_reducible repeat (first | refine blk_drewN ?_ _ | refine blk_drew ?_ | refine blk_alloc ?_ _)); refine blk_put (cs := #[.int .i64 t218, u220001, .slice none 0 0]) ?_ 1 _ rfl; (with_reducible repeat (first | refine blk_drewN ?_ _ | refine blk_drew ?_ | refine blk_alloc ?_ _)); exact BK219.out⟩, ⟨by repeat (first | (with_reducible first | exact HB.out | apply below_alloc | apply pw_below_drewN | apply below_drew1 | refine below_set ?_ GE215.out | refine below_set ?_ GE216.out | refine below_set ?_ GE219.out) | exact HB.out)⟩⟩
           ·
            rw [if_neg c31] at H
            exact absurd H (by simp)
          ·
           rw [if_neg c30] at H
           exact absurd H (by simp)
         ·
          rw [if_neg c29] at H
          have c29b0 : (t218 == 0) = false := beq_eq_false_iff_ne.mpr c29
          have c29b1 : (t218 != 0) = true := bne_iff_ne.mpr c29
          by_cases c39 : x7_1 = 0
          ·
           rw [if_pos c39] at H
           have c39b0 : (x7_1 == 0) = true := beq_iff_eq.mpr c39
           have c39b1 : (x7_1 != 0) = false := bne_eq_false_iff_eq.mpr c39
           clear c39
           by_cases c40 : 0 ≤ x7_1
           ·
            rw [if_pos c40] at H
            have c40b0 : decide (0 ≤ x7_1) = true := decide_eq_true c40
            clear c40
            by_cases c41 : x220001_1.length < 2199023255552
            ·
             rw [if_pos c41] at H
             have LMc41 := Aside0.mk c41
             clear c41
             obtain ⟨y228, hy228⟩ : ∃ y_ : List (S28), y_ = (x220001_1 ++ [(⟨(rd_T28 (rd_L3 l0_0 t218) x7_1).f0, (rd_T28 (rd_L3 l0_0 t218) x7_1).f1, (rd_T28 (rd_L3 l0_0 t218) x7_1).f2, (rd_T28 (rd_L3 l0_0 t218) x7_1).f3, (rd_T28 (rd_L3 l0_0 t218) x7_1).f4⟩ : S28)]) := ⟨_, rfl⟩
             replace H : (millhandref18_Pick.l0 k1 t218 (wrap64 (x7_1 + 1)) l0_0 a0_1 a0_2 a0_3 t218 y228) = some (r1, r2, r3, r4) := by first | (rw [hy228]; with_reducible exact H) | (have H2_ := (Option.bind_some _ _).symm.trans H; rw [hy228]; with_reducible exact H2_) | (have H2_ := (Option.bind_some _ _).symm.trans H; with_reducible exact H2_) | with_reducible exact H | (rw [hy228]; exact H) | exact H
             have Ny228 := Aside0.mk hy228
             clear hy228
             have H' := Aside0.mk H
             clear H
             have hnb42 := NB215_216.out
             have hnc42 := NB216_215.out
             have hnb43 := NB215_219.out
             have hnc43 := NB219_215.out
             have hcz44_0 : wr.cell? ⟨gb215, 0, none⟩ = some (.slice A0_0 l0_0.length c0_0) := (blk_cell BK215.out 0).trans rfl
             have hcz44_1 : wr.cell? ⟨gb215, 1, none⟩ = some (.int .i64 a0_1) := (blk_cell BK215.out 1).trans rfl
             have hcz44_2 : wr.cell? ⟨gb215, 2, none⟩ = some (.int .i64 a0_2) := (blk_cell BK215.out 2).trans rfl
             have hcz44_3 : wr.cell? ⟨gb215, 3, none⟩ = some (.string a0_3) := (blk_cell BK215.out 3).trans rfl
             have hfz44_0 := blk_frozen BK215.out 0
             have hfz44_1 := blk_frozen BK215.out 1
             have hfz44_2 := blk_frozen BK215.out 2
             have hfz44_3 := blk_frozen BK215.out 3
             have p220 : 0 ≤ (t218 : Int) := of_decide_eq_true (by first | (with_reducible assumption) | assumption)
             have q220 : t218 < (l0_0.length : Int) := of_decide_eq_true (by first | (with_reducible assumption) | assumption)
             obtain ⟨ad220, A220_0, c220_0, e220, hx220_0, hl220_0, hi220_0⟩ := at_L3 HR0_0.out t218 p220 q220
             cases e220
             replace hx220_0 := cl_ HB.out hx220_0
             have HR220_0 := Aside0.mk hi220_0
             have HC220_0 := Aside0.mk hl220_0
             clear hi220_0 hl220_0
             replace p220 := eq_true p220
             replace q220 := eq_true q220
             try go_wp2
             have n0_ := Aside0.mk (Kd.R_drew HO_220001.out)
             have n1_ := Aside0.mk (blk_drew BK215.out)
             have n2_ := Aside0.mk (blk_drew BK216.out)
             have n3_ := Aside0.mk (blk_drew BK219.out)
             have n4_ := Aside0.mk (below_drew1 HB.out)
             clear HO_220001
             clear BK215
             clear BK216
             clear BK219
             clear HB
             have HO_220001 := n0_
             have BK215 := n1_
             have BK216 := n2_
             have BK219 := n3_
             have HB := n4_
             clear n0_ n1_ n2_ n3_ n4_
             have p226 : 0 ≤ (t218 : Int) := of_decide_eq_true (by first | (with_reducible assumption) | assumption)
             have q226 : t218 < (l0_0.length : Int) := of_decide_eq_true (by first | (with_reducible assumption) | assumption)
             obtain ⟨ad226, A226_0, c226_0, e226, hx226_0, hl226_0, hi226_0⟩ := at_L3 HR0_0.out t218 p226 q226
             have hw226_0 := hx226_0
             obtain rfl : ad220 = ad226 := (by injection e226)
             replace hx226_0 := cl_ HB.out hx226_0
             have HR226_0 := Aside0.mk hi226_0
             have HC226_0 := Aside0.mk hl226_0
             clear hi226_0 hl226_0
             replace p226 := eq_true p226
             replace q226 := eq_true q226
             have p227 : 0 ≤ (x7_1 : Int) := of_decide_eq_true (by first | (with_reducible assumption) | assumption)
             have q227 : x7_1 < ((rd_L3 l0_0 t218).length : Int) := of_decide_eq_true (by first | (with_reducible assumption) | assumption)
             obtain ⟨ad227, e227, hx227_0, hx227_1, hx227_2, hx227_3, hx227_4⟩ := at_T28 HR226_0.out x7_1 p227 q227
             have hw227_4 := hx227_4
             have hw227_3 := hx227_3
             have hw227_2 := hx227_2
             have hw227_1 := hx227_1
             have hw227_0 := hx227_0
             cases e227
             replace hx227_0 := cl_ HB.out hx227_0
             replace hx227_1 := cl_ HB.out hx227_1
             replace hx227_2 := cl_ HB.out hx227_2
             replace hx227_3 := cl_ HB.out hx227_3
             replace hx227_4 := cl_ HB.out hx227_4
             replace p227 := eq_true p227
             replace q227 := eq_true q227
             refine start_ (n := 14) (S := fun w' => w'.cell? ⟨gb219, 0, none⟩ = some (.int .i64 t218) ∧ w'.cell? ⟨gb219, 1, none⟩ = some (u220001) ∧ w'.cell? ⟨gb219, 2, none⟩ = some (.slice none 0 0) ∧ w'.cell? ⟨gb215, 0, none⟩ = some (.slice (some ad220) l0_0.length c0_0) ∧ w'.cell? ⟨gb215, 1, none⟩ = some (.int .i64 a0_1) ∧ w'.cell? ⟨gb215, 2, none⟩ = some (.int .i64 a0_2) ∧ w'.cell? ⟨gb215, 3, none⟩ = some (.string a0_3) ∧ w'.cell? (ad220.add (t218).toNat) = some (.slice (some ad227) (rd_L3 l0_0 t218).length c226_0) ∧ w'.cell? (ad227.add ((x7_1).toNat * 5)) = some (.string ((rd_T28 (rd_L3 l0_0 t218) x7_1).f0)) ∧ w'.cell? ⟨(ad227.add ((x7_1).toNat * 5)).block, (ad227.add ((x7_1).toNat * 5)).off + 1, none⟩ = some (.int .i64 ((rd_T28 (rd_L3 l0_0 t218) x7_1).f1)) ∧ w'.cell? ⟨(ad227.add ((x7_1).toNat * 5)).block, (ad227.add ((x7_1).toNat * 5)).off + 2, none⟩ = some (.int .i64 ((rd_T28 (rd_L3 l0_0 t218) x7_1).f2)) ∧ w'.cell? ⟨(ad227.add ((x7_1).toNat * 5)).block, (ad227.add ((x7_1).toNat * 5)).off + 3, none⟩ = some (.string ((rd_T28 (rd_L3 l0_0 t218) x7_1).f3)) ∧ w'.cell? ⟨(ad227.add ((x7_1).toNat * 5)).block, (ad227.add ((x7_1).toNat * 5)).off + 4, none⟩ = some (.string ((rd_T28 (rd_L3 l0_0 t218) x7_1).f4))) (ds := [13]) (b_ 14 0) (by kernel_rfl) rfl rfl ⟨(blk_cell BK219.out 0).trans rfl, (blk_cell BK219.out 1).trans rfl, (blk_cell BK219.out 2).trans rfl, (blk_cell BK215.out 0).trans rfl, (blk_cell BK215.out 1).trans rfl, (blk_cell BK215.out 2).trans rfl, (blk_cell BK215.out 3).trans rfl, (cl_ HB.out hw226_0), (cl_ HB.out hw227_0), (cl_ HB.out hw227_1), (cl_ HB.out hw227_2), (cl_ HB.out hw227_3), (cl_ HB.out hw227_4)⟩ (fun hHeld => ?_); refine with_tabW millhandref18_Pick.tab11 millhandref18_Pick.bits11 (fun HT_ HW_ => ?_)
             generalize wr.drew = w45 at HO_220001 BK215 BK216 BK219 HB HR226_0 hx226_0 hx227_0 hx227_1 hx227_2 hx227_3 hx227_4 hHeld ⊢
             refine pA_ 0 42 ?_ (b_ 14 1) (any_of HT_.out (by kernel_rfl)) rfl rfl (fun _ _ _ h => h) (by rfl) ?_ ?_ ?_ ?_
             rotate_left
             ·
              intro w'
              go_simp
              with_reducible rfl
             rotate_left
             ·
              simp only [Act.put, sa_, s0_, s1_, i64_w, i32_w]
              rfl
             refine pA_ 2 44 ?_ (b_ 14 5) (any_of HT_.out (by kernel_rfl)) rfl rfl (fun _ _ _ h => h) (by rfl) ?_ ?_ ?_ ?_
             rotate_left
             ·
              intro w'
              go_simp
              with_reducible rfl
             rotate_left
             ·
              simp only [Act.put, sa_, s0_, s1_, i64_w, i32_w]
              rfl
             refine pA_ 4 46 ?_ (b_ 14 21) (any_of HT_.out (by kernel_rfl)) rfl rfl (fun _ _ _ h => h) (by rfl) ?_ ?_ ?_ ?_
             rotate_left
             ·
              intro w'
              go_simp
              with_reducible rfl
             rotate_left
             ·
              simp only [Act.put, sa_, s0_, s1_, i64_w, i32_w]
              rfl
             refine pA_ 7 49 ?_ (b_ 14 149) (any_of HT_.out (by kernel_rfl)) rfl rfl (fun _ _ _ h => h) (by rfl) ?_ ?_ ?_ ?_
             rotate_left
             ·
              intro w'
              go_simp
              with_reducible rfl
             rotate_left
             ·
              simp only [Act.put, sa_, s0_, s1_, i64_w, i32_w]
              rfl
             refine tA_ 1 43 ?_ (b_ 14 151) (take_ofW HT_.out HW_.out (by kernel_rfl)) rfl rfl (fun _ _ _ h => h) (by rfl) ?_ hHeld ?_ ?_ ?_
             rotate_left
             ·
              rintro w' ⟨s0, s1, s2, s3, s4, s5, s6, s7, s8, s9, s10, s11, s12⟩
              go_simp
              with_reducible rfl
             rotate_left
             ·
              simp only [Act.put, sa_, s0_, s1_, i64_w, i32_w]
              rfl
             refine tA_ 3 45 ?_ (b_ 14 159) (take_ofW HT_.out HW_.out (by kernel_rfl)) rfl rfl (fun _ _ _ h => h) (by rfl) ?_ hHeld ?_ ?_ ?_
             rotate_left
             ·
              rintro w' ⟨s0, s1, s2, s3, s4, s5, s6, s7, s8, s9, s10, s11, s12⟩
              go_simp
              with_reducible rfl
             rotate_left
             ·
              simp only [Act.put, sa_, s0_, s1_, i64_w, i32_w]
              rfl
             refine pA_ 5 47 ?_ (b_ 14 191) (any_of HT_.out (by kernel_rfl)) rfl rfl (fun _ _ _ h => h) (by rfl) ?_ ?_ ?_ ?_
             rotate_left
             ·
              intro w'
              go_simp
              with_reducible rfl
             rotate_left
             ·
              simp only [Act.put, sa_, s0_, s1_, i64_w, i32_w]
              rfl
             refine tA_ 6 48 ?_ (b_ 14 255) (take_ofW HT_.out HW_.out (by kernel_rfl)) rfl rfl (fun _ _ _ h => h) (by rfl) ?_ hHeld ?_ ?_ ?_
             rotate_left
             ·
              rintro w' ⟨s0, s1, s2, s3, s4, s5, s6, s7, s8, s9, s10, s11, s12⟩
              go_simp
              with_reducible rfl
             rotate_left
             ·
              simp only [Act.put, sa_, s0_, s1_, i64_w, i32_w]
              rfl
             refine pA_ 8 50 ?_ (b_ 14 511) (any_of HT_.out (by kernel_rfl)) rfl rfl (fun _ _ _ h => h) (by rfl) ?_ ?_ ?_ ?_
             rotate_left
             ·
              intro w'
              go_simp
              with_reducible rfl
             rotate_left
             ·
              simp only [Act.put, sa_, s0_, s1_, i64_w, i32_w]
              rfl
             refine tA_ 9 51 ?_ (b_ 14 1023) (take_ofW HT_.out HW_.out (by kernel_rfl)) rfl rfl (fun _ _ _ h => h) (by rfl) ?_ hHeld ?_ ?_ ?_
             rotate_left
             ·
              rintro w' ⟨s0, s1, s2, s3, s4, s5, s6, s7, s8, s9, s10, s11, s12⟩
              go_simp
              with_reducible rfl
             rotate_left
             ·
              simp only [Act.put, sa_, s0_, s1_, i64_w, i32_w]
              rfl
             refine one_ (i := 10) (N := some 52) (b_ 14 2047) rfl rfl (one_of HT_.out (by kernel_rfl)) (by decide) (fun K hK => ?_)
             refine value_ (w1 := ?_) (v := ?_) (by rfl) rfl ?_ ?_
             rotate_left 2
             ·
              go_simp
              constructor
              ·
               rfl
              ·
               rfl
             refine hK.out _ _ ⟨(blk_cell (blk_alloc BK219.out _) 0).trans rfl, (blk_cell (blk_alloc BK219.out _) 1).trans rfl, (blk_cell (blk_alloc BK219.out _) 2).trans rfl, (blk_cell (blk_alloc BK215.out _) 0).trans rfl, (blk_cell (blk_alloc BK215.out _) 1).trans rfl, (blk_cell (blk_alloc BK215.out _) 2).trans rfl, (blk_cell (blk_alloc BK215.out _) 3).trans rfl, (World.cell?_alloc_lt _ _ _ (World.block_lt_of_cell? _ _ (((HB.out.cell (World.block_lt_of_cell? w _ hw226_0)).trans hw226_0)))).trans (((HB.out.cell (World.block_lt_of_cell? w _ hw226_0)).trans hw226_0)), (World.cell?_alloc_lt _ _ _ (World.block_lt_of_cell? _ _ (((HB.out.cell (World.block_lt_of_cell? w _ hw227_0)).trans hw227_0)))).trans (((HB.out.cell (World.block_lt_of_cell? w _ hw227_0)).trans hw227_0)), (World.cell?_alloc_lt _ _ _ (World.block_lt_of_cell? _ _ (((HB.out.cell (World.block_lt_of_cell? w _ hw227_1)).trans hw227_1)))).trans (((HB.out.cell (World.block_lt_of_cell? w _ hw227_1)).trans hw227_1)), (World.cell?_alloc_lt _ _ _ (World.block_lt_of_cell? _ _ (((HB.out.cell (World.block_lt_of_cell? w _ hw227_2)).trans hw227_2)))).trans (((HB.out.cell (World.block_lt_of_cell? w _ hw227_2)).trans hw227_2)), (World.cell?_alloc_lt _ _ _ (World.block_lt_of_cell? _ _ (((HB.out.cell (World.block_lt_of_cell? w _ hw227_3)).trans hw227_3)))).trans (((HB.out.cell (World.block_lt_of_cell? w _ hw227_3)).trans hw227_3)), (World.cell?_alloc_lt _ _ _ (World.block_lt_of_cell? _ _ (((HB.out.cell (World.block_lt_of_cell? w _ hw227_4)).trans hw227_4)))).trans (((HB.out.cell (World.block_lt_of_cell? w _ hw227_4)).trans hw227_4))⟩ (fun hHeld => ?_)
             clear hK K
             refine norm_ (a' := ?_) ?_ ?_
             rotate_left
             ·
              show Act.put _ (some 52) _ = _
              simp only [Act.put, sa_, s0_, s1_, i64_w, i32_w]
              rfl
             refine one_ (i := 11) (N := some 53) (b_ 14 4095) rfl rfl (one_of HT_.out (by kernel_rfl)) (by decide) (fun K hK => ?_)
             refine Kd.R_append_step k28 (w0 := w) w.heap.size (by rfl) (.tmp 43) (.tmp 52) 26 28 (.agg #[(.string ⟨#[]⟩), (.int .i64 0), (.int .i64 0), (.string ⟨#[]⟩), (.string ⟨#[]⟩)]) 64 rfl Try.underlying26 info28 rfl (by decide) (by omega) u220001 x220001_1 (⟨(rd_T28 (rd_L3 l0_0 t218) x7_1).f0, (rd_T28 (rd_L3 l0_0 t218) x7_1).f1, (rd_T28 (rd_L3 l0_0 t218) x7_1).f2, (rd_T28 (rd_L3 l0_0 t218) x7_1).f3, (rd_T28 (rd_L3 l0_0 t218) x7_1).f4⟩ : S28) [.string ((rd_T28 (rd_L3 l0_0 t218) x7_1).f0), .int .i64 ((rd_T28 (rd_L3 l0_0 t218) x7_1).f1), .int .i64 ((rd_T28 (rd_L3 l0_0 t218) x7_1).f2), .string ((rd_T28 (rd_L3 l0_0 t218) x7_1).f3), .string ((rd_T28 (rd_L3 l0_0 t218) x7_1).f4)] (fun _ => True) (fun _ => False) rfl rfl ?aP (fun _ hk => hk.elim) ?aF ?aO ?aB ?aS ?aL ?_
             (case aP => exact k28_mkM _ _ _ (⟨(rd_T28 (rd_L3 l0_0 t218) x7_1).f0, (rd_T28 (rd_L3 l0_0 t218) x7_1).f1, (rd_T28 (rd_L3 l0_0 t218) x7_1).f2, (rd_T28 (rd_L3 l0_0 t218) x7_1).f3, (rd_T28 (rd_L3 l0_0 t218) x7_1).f4⟩ : S28))
             (case aB => exact (by repeat (first | (with_reducible first | exact HB.out | apply below_alloc | apply pw_below_drewN | apply below_drew1 | refine below_set ?_ GE215.out | refine below_set ?_ GE216.out | refine below_set ?_ GE219.out) | exact HB.out)))
             (case aF => exact (fun _ _ => trivial))
             (case aO => exact (by (with_reducible repeat (first | apply Kd.R_alloc | apply Kd.R_drewN | apply Kd.R_drew)); exact HO_220001.out))
             (case aS => exact (below_size (by repeat (first | (with_reducible first | exact HB.out | apply below_alloc | apply pw_below_drewN | apply below_drew1 | refine below_set ?_ GE215.out | refine below_set ?_ GE216.out | refine below_set ?_ GE219.out) | exact HB.out))))
             (case aL => have := LMc41.out; omega)
             intro v229 w46 ho hb hg hat
             rw [← Ny228.out] at ho
             have n0_ := Aside0.mk (blk_grown (g := gb215) (o := .cells #[.slice (some ad220) l0_0.length c0_0, .int .i64 a0_1, .int .i64 a0_2, .string a0_3] 24 (0, 0)) (by (with_reducible repeat (first | refine blk_drewN ?_ _ | refine blk_drew ?_ | refine blk_alloc ?_ _)); exact BK215.out) hg (Kd.R_ne HO_220001.out BK215.out (by decide)))
             have n1_ := Aside0.mk (blk_grown (g := gb216) (o := .cells #[.int .i64 0, .slice none 0 0, .slice none 0 0] 31 (0, 0)) (by (with_reducible repeat (first | refine blk_drewN ?_ _ | refine blk_drew ?_ | refine blk_alloc ?_ _)); exact BK216.out) hg (Kd.R_ne HO_220001.out BK216.out (by decide)))
             have n2_ := Aside0.mk (blk_grown (g := gb219) (o := .cells #[.int .i64 t218, u220001, .slice none 0 0] 31 (0, 0)) (by (with_reducible repeat (first | refine blk_drewN ?_ _ | refine blk_drew ?_ | refine blk_alloc ?_ _)); exact BK219.out) hg (Kd.R_ne HO_220001.out BK219.out (by decide)))
             have n3_ := Aside0.mk (hb)
             have n4_ := Aside0.mk (ho)
             clear BK215
             clear BK216
             clear BK219
             clear HB
             clear HO_220001
             have BK215 := n0_
             have BK216 := n1_
             have BK219 := n2_
             have HB := n3_
             have HO230 := n4_
             clear n0_ n1_ n2_ n3_ n4_
             clear ho hb hg hat
             obtain ⟨Ao47, co47, eo47⟩ := Kd.R_slice HO230.out
             (first | subst eo47 | (injection eo47 with f1_ f2_ f3_; have f4_ := f1_.symm; have f5_ := f3_.symm; clear f1_ f2_ f3_; subst f4_; subst f5_))
             refine hK.out _ _ ⟨(blk_cell BK219.out 0).trans rfl, (blk_cell BK219.out 1).trans rfl, (blk_cell BK219.out 2).trans rfl, (blk_cell BK215.out 0).trans rfl, (blk_cell BK215.out 1).trans rfl, (blk_cell BK215.out 2).trans rfl, (blk_cell BK215.out 3).trans rfl, ((HB.out.cell (World.block_lt_of_cell? w _ hw226_0)).trans hw226_0), ((HB.out.cell (World.block_lt_of_cell? w _ hw227_0)).trans hw227_0), ((HB.out.cell (World.block_lt_of_cell? w _ hw227_1)).trans hw227_1), ((HB.out.cell (World.block_lt_of_cell? w _ hw227_2)).trans hw227_2), ((HB.out.cell (World.block_lt_of_cell? w _ hw227_3)).trans hw227_3), ((HB.out.cell (World.block_lt_of_cell? w _ hw227_4)).trans hw227_4)⟩ (fun hHeld => ?_)
             clear hK K
             refine norm_ (a' := ?_) ?_ ?_
             rotate_left
             ·
              show Act.put _ (some 53) _ = _
              simp only [Act.put, sa_, s0_, s1_, i64_w, i32_w]
              rfl
             refine pA_ 12 54 ?_ (b_ 14 8191) (any_of HT_.out (by kernel_rfl)) rfl rfl (fun _ _ _ h => h) (by rfl) ?_ ?_ ?_ ?_
             rotate_left
             ·
              intro w'
              go_simp
              with_reducible rfl
             rotate_left
             ·
              simp only [Act.put, sa_, s0_, s1_, i64_w, i32_w]
              rfl
             refine last_ (i := 13) (N := none) (b_ 14 16383) rfl rfl (one_of HT_.out (by kernel_rfl)) (by decide) (fun K hK => ?_)
             have hs48 : w46.cell? ⟨gb219, 1, none⟩ = some (u220001) := (blk_cell BK219.out 1).trans rfl
             have hfs48 := blk_frozen BK219.out 1
             have hns48_0 := NB215_219.out
             have hns48_1 := NB216_219.out
             have hms48_0 := NB219_215.out
             have hms48_1 := NB219_216.out
             refine skip_ (w1 := ?_) (by rfl) rfl ?_ ?_
             rotate_left
             ·
              go_simp
              rfl
             refine hK.out _ _ ?_
             clear hK K
             refine done_ (done_of HT_.out (by kernel_rfl)) ?_
             try go_wp2
             go_roundg k1
             case measure => have := HK1.out; omega
             case rel => exact ⟨(wrap64 (x7_1 + 1)), (y228), (.slice Ao47 y228.length co47), (by first | rfl | (simp; done) | (simp [*]; done)), H', ⟨by have := HK1.out; omega⟩, ⟨by (with_reducible repeat (first | apply Kd.R_alloc | apply Kd.R_drewN | apply Kd.R_drew)); exact Kd.R_mono (Kd.R_far (p := ⟨gb219, 1, none⟩) (Kd.R_types HO230.out BK219.out (by decide)) (fun _ hk => hk.2) (.slice Ao47 y228.length co47)) (fun _ hk => trivial)⟩, ⟨by (with_reducible repeat (first | refine blk_drewN ?_ _ | refine blk_drew ?_ | refine blk_alloc ?_ _)); refine blk_far ?_ NB215_219.out _; (with_reducible repeat (first | refine blk_drewN ?_ _ | refine blk_drew ?_ | refine blk_alloc ?_ _)); exact BK215.out⟩, ⟨by (with_reducible repeat (first | refine blk_drewN ?_ _ | refine blk_drew ?_ | refine blk_alloc ?_ _)); refine blk_far ?_ NB216_219.out _; (with_reducible repeat (first | refine blk_drewN ?_ _ | refine blk_drew ?_ | refine blk_alloc ?_ _)); exact BK216.out⟩, ⟨by (with_reducible repeat (first | refine blk_drewN ?_ _ | refine blk_drew ?_ | refine blk_alloc ?_ _)); refine blk_put (cs := #[.int .i64 t218, u220001, .slice none 0 0]) ?_ 1 _ rfl; (with_reducible repeat (first | refine blk_drewN ?_ _ | refine blk_drew ?_ | refine blk_alloc ?_ _)); exact BK219.out⟩, ⟨by repeat (first | (with_reducible first | exact HB.out | apply below_alloc | apply pw_below_drewN | apply below_drew1 | refine below_set ?_ GE215.out | refine below_set ?_ GE216.out | refine below_set ?_ GE219.out) | exact HB.out)⟩⟩
            ·
             rw [if_neg c41] at H
             exact absurd H (by simp)
           ·
            rw [if_neg c40] at H
            exact absurd H (by simp)
          ·
           rw [if_neg c39] at H
           have c39b0 : (x7_1 == 0) = false := beq_eq_false_iff_ne.mpr c39
           have c39b1 : (x7_1 != 0) = true := bne_iff_ne.mpr c39
           have H' := Aside0.mk H
           clear H
           have hnb49 := NB215_216.out
           have hnc49 := NB216_215.out
           have hnb50 := NB215_219.out
           have hnc50 := NB219_215.out
           have hcz51_0 : wr.cell? ⟨gb215, 0, none⟩ = some (.slice A0_0 l0_0.length c0_0) := (blk_cell BK215.out 0).trans rfl
           have hcz51_1 : wr.cell? ⟨gb215, 1, none⟩ = some (.int .i64 a0_1) := (blk_cell BK215.out 1).trans rfl
           have hcz51_2 : wr.cell? ⟨gb215, 2, none⟩ = some (.int .i64 a0_2) := (blk_cell BK215.out 2).trans rfl
           have hcz51_3 : wr.cell? ⟨gb215, 3, none⟩ = some (.string a0_3) := (blk_cell BK215.out 3).trans rfl
           have hfz51_0 := blk_frozen BK215.out 0
           have hfz51_1 := blk_frozen BK215.out 1
           have hfz51_2 := blk_frozen BK215.out 2
           have hfz51_3 := blk_frozen BK215.out 3
           have p220 : 0 ≤ (t218 : Int) := of_decide_eq_true (by first | (with_reducible assumption) | assumption)
           have q220 : t218 < (l0_0.length : Int) := of_decide_eq_true (by first | (with_reducible assumption) | assumption)
           obtain ⟨ad220, A220_0, c220_0, e220, hx220_0, hl220_0, hi220_0⟩ := at_L3 HR0_0.out t218 p220 q220
           cases e220
           replace hx220_0 := cl_ HB.out hx220_0
           have HR220_0 := Aside0.mk hi220_0
           have HC220_0 := Aside0.mk hl220_0
           clear hi220_0 hl220_0
           replace p220 := eq_true p220
           replace q220 := eq_true q220
           go_wp2
           go_meet
           case rel => exact ⟨_, (x220001_1), (u220001), H', ⟨by have := HK1.out; first | omega | exact Nat.le_refl _⟩, ⟨by (with_reducible repeat (first | apply Kd.R_alloc | apply Kd.R_drewN | apply Kd.R_drew)); exact HO_220001.out⟩, ⟨by (with_reducible repeat (first | refine blk_drewN ?_ _ | refine blk_drew ?_ | refine blk_alloc ?_ _)); exact BK215.out⟩, ⟨by (with_reducible repeat (first | refine blk_drewN ?_ _ | refine blk_drew ?_ | refine blk_alloc ?_ _)); exact BK216.out⟩, ⟨by (with_reducible repeat (first | refine blk_drewN ?_ _ | refine blk_drew ?_ | refine blk_alloc ?_ _)); exact BK219.out⟩, ⟨by repeat (first | (with_reducible first | exact HB.out | apply below_alloc | apply pw_below_drewN | apply below_drew1 | refine below_set ?_ GE215.out | refine below_set ?_ GE216.out | refine below_set ?_ GE219.out) | exact HB.out)⟩⟩
        ·
         rw [if_neg c28] at H
         have c28b0 : decide (x7_1 < ((rd_L3 l0_0 t218).length : Int)) = false := decide_eq_false c28
         clear c28
         have H' := Aside0.mk H
         clear H
         have hnb52 := NB215_216.out
         have hnc52 := NB216_215.out
         have hnb53 := NB215_219.out
         have hnc53 := NB219_215.out
         have hcz54_0 : wr.cell? ⟨gb215, 0, none⟩ = some (.slice A0_0 l0_0.length c0_0) := (blk_cell BK215.out 0).trans rfl
         have hcz54_1 : wr.cell? ⟨gb215, 1, none⟩ = some (.int .i64 a0_1) := (blk_cell BK215.out 1).trans rfl
         have hcz54_2 : wr.cell? ⟨gb215, 2, none⟩ = some (.int .i64 a0_2) := (blk_cell BK215.out 2).trans rfl
         have hcz54_3 : wr.cell? ⟨gb215, 3, none⟩ = some (.string a0_3) := (blk_cell BK215.out 3).trans rfl
         have hfz54_0 := blk_frozen BK215.out 0
         have hfz54_1 := blk_frozen BK215.out 1
         have hfz54_2 := blk_frozen BK215.out 2
         have hfz54_3 := blk_frozen BK215.out 3
         have p220 : 0 ≤ (t218 : Int) := of_decide_eq_true (by first | (with_reducible assumption) | assumption)
         have q220 : t218 < (l0_0.length : Int) := of_decide_eq_true (by first | (with_reducible assumption) | assumption)
         obtain ⟨ad220, A220_0, c220_0, e220, hx220_0, hl220_0, hi220_0⟩ := at_L3 HR0_0.out t218 p220 q220
         cases e220
         replace hx220_0 := cl_ HB.out hx220_0
         have HR220_0 := Aside0.mk hi220_0
         have HC220_0 := Aside0.mk hl220_0
         clear hi220_0 hl220_0
         replace p220 := eq_true p220
         replace q220 := eq_true q220
         go_wp2
         go_meet
         case rel => exact ⟨_, (x220001_1), (u220001), H', ⟨by have := HK1.out; first | omega | exact Nat.le_refl _⟩, ⟨by (with_reducible repeat (first | apply Kd.R_alloc | apply Kd.R_drewN | apply Kd.R_drew)); exact HO_220001.out⟩, ⟨by (with_reducible repeat (first | refine blk_drewN ?_ _ | refine blk_drew ?_ | refine blk_alloc ?_ _)); exact BK215.out⟩, ⟨by (with_reducible repeat (first | refine blk_drewN ?_ _ | refine blk_drew ?_ | refine blk_alloc ?_ _)); exact BK216.out⟩, ⟨by (with_reducible repeat (first | refine blk_drewN ?_ _ | refine blk_drew ?_ | refine blk_alloc ?_ _)); exact BK219.out⟩, ⟨by repeat (first | (with_reducible first | exact HB.out | apply below_alloc | apply pw_below_drewN | apply below_drew1 | refine below_set ?_ GE215.out | refine below_set ?_ GE216.out | refine below_set ?_ GE219.out) | exact HB.out)⟩⟩
       ·
        rw [if_neg c27] at H
        exact absurd H (by simp)
      ·
       rw [if_neg c26] at H
       exact absurd H (by simp)
   case rest =>
    clear HC14
    try clear c2
    try clear p2
    try clear q2
    try clear hx2
    try clear c3
    try clear c4
    try clear c5
    try clear p6
    try clear c22
    try clear p22
    try clear q22
    try clear hx22
    try clear c26
    try clear c26b0
    try clear c27
    try clear c27b0
    try clear c28
    try clear c28b0
    try clear c29
    try clear c29b0
    try clear c29b1
    try clear c30
    try clear c30b0
    try clear c31
    try clear c32
    try clear c33
    try clear c39
    try clear c39b0
    try clear c39b1
    try clear c40
    try clear c40b0
    try clear c41
    try clear c42
    try clear c43
    try clear c49
    try clear c50
    try clear c52
    try clear c53
    try clear hcz34_0
    try clear hcz34_1
    try clear hcz34_2
    try clear hcz34_3
    try clear hcz44_0
    try clear hcz44_1
    try clear hcz44_2
    try clear hcz44_3
    try clear hcz51_0
    try clear hcz51_1
    try clear hcz51_2
    try clear hcz51_3
    try clear hcz54_0
    try clear hcz54_1
    try clear hcz54_2
    try clear hcz54_3
    try clear hfz13_1
    try clear hfz13_2
    try clear hfz18_0
    try clear hfz18_1
    try clear hfz18_2
    try clear hfz18_3
    try clear hfz20_0
    try clear hfz20_1
    try clear hfz20_2
    try clear hfz20_3
    try clear hfz25_0
    try clear hfz25_1
    try clear hfz25_2
    try clear hfz34_0
    try clear hfz34_1
    try clear hfz34_2
    try clear hfz34_3
    try clear hfz44_0
    try clear hfz44_1
    try clear hfz44_2
    try clear hfz44_3
    try clear hfz51_0
    try clear hfz51_1
    try clear hfz51_2
    try clear hfz51_3
    try clear hfz54_0
    try clear hfz54_1
    try clear hfz54_2
    try clear hfz54_3
    try clear hfz9_0
    try clear hfz9_1
    try clear hfz9_2
    try clear hfz9_3
    try clear hx220_0
    try clear hx221_0
    try clear hx222_0
    try clear hx222_1
    try clear hx222_2
    try clear hx222_3
    try clear hx222_4
    try clear hx226_0
    try clear hx227_0
    try clear hx227_1
    try clear hx227_2
    try clear hx227_3
    try clear hx227_4
    try clear p220
    try clear p221
    try clear p222
    try clear p226
    try clear p227
    try clear q220
    try clear q221
    try clear q222
    try clear q226
    try clear q227
    obtain ⟨kq, x220001_13, u220001, HA, HJ13, HO_220001, BK215, BK216, BK219, HB⟩ := hcut
    cases kq with
    | zero => exact absurd HA.out (by simp [millhandref18_Pick.j1])
    | succ kj13 =>
     have H := HA.out
     clear HA
     simp only [millhandref18_Pick.j1] at H
     by_cases c55 : 0 < (x220001_13.length : Int)
     ·
      rw [if_pos c55] at H
      have c55b0 : decide (0 < (x220001_13.length : Int)) = true := decide_eq_true c55
      have c55b1 : decide (0 < x220001_13.length) = true := decide_eq_true (by omega)
      clear c55
      have H' := Aside0.mk H
      clear H
      have hnb56 := NB219_215.out
      have hnc56 := NB215_219.out
      have hnb57 := NB219_216.out
      have hnc57 := NB216_219.out
      have hcz58_0 : wc.cell? ⟨gb219, 0, none⟩ = some (.int .i64 t218) := (blk_cell BK219.out 0).trans rfl
      have hcz58_1 : wc.cell? ⟨gb219, 1, none⟩ = some (u220001) := (blk_cell BK219.out 1).trans rfl
      have hcz58_2 : wc.cell? ⟨gb219, 2, none⟩ = some (.slice none 0 0) := (blk_cell BK219.out 2).trans rfl
      have hfz58_0 := blk_frozen BK219.out 0
      have hfz58_1 := blk_frozen BK219.out 1
      have hfz58_2 := blk_frozen BK219.out 2
      obtain ⟨Ao59, co59, eo59⟩ := Kd.R_slice HO_220001.out
      subst eo59
      have p231 : 0 ≤ (0 : Int) := (by omega)
      have q231 : 0 < (x220001_13.length : Int) := of_decide_eq_true (by first | (with_reducible assumption) | assumption)
      obtain ⟨ad231, e231, hx231_0, hx231_1, hx231_2, hx231_3, hx231_4⟩ := at_T28 (Kd.R_reads' HO_220001.out).2.2 0 p231 q231
      cases e231
      have qi231 : (0 < x220001_13.length) = True := eq_true (by omega)
      (try rw [show ((0 : Int)).toNat = 0 from rfl] at hx231_0)
      (try rw [show 0 * 5 = 0 from rfl] at hx231_0)
      (try rw [Addr.add_zero'] at hx231_0)
      (try rw [show ((0 : Int)).toNat = 0 from rfl] at hx231_1)
      (try rw [show 0 * 5 = 0 from rfl] at hx231_1)
      (try rw [Addr.add_zero'] at hx231_1)
      (try rw [show ((0 : Int)).toNat = 0 from rfl] at hx231_2)
      (try rw [show 0 * 5 = 0 from rfl] at hx231_2)
      (try rw [Addr.add_zero'] at hx231_2)
      (try rw [show ((0 : Int)).toNat = 0 from rfl] at hx231_3)
      (try rw [show 0 * 5 = 0 from rfl] at hx231_3)
      (try rw [Addr.add_zero'] at hx231_3)
      (try rw [show ((0 : Int)).toNat = 0 from rfl] at hx231_4)
      (try rw [show 0 * 5 = 0 from rfl] at hx231_4)
      (try rw [Addr.add_zero'] at hx231_4)
      replace p231 := eq_true p231
      replace q231 := eq_true q231
      have p232 : 0 ≤ (0 : Int) := (by omega)
      have q232 : 0 < (x220001_13.length : Int) := of_decide_eq_true (by first | (with_reducible assumption) | assumption)
      obtain ⟨ad232, e232, hx232_0, hx232_1, hx232_2, hx232_3, hx232_4⟩ := at_T28 (Kd.R_reads' HO_220001.out).2.2 0 p232 q232
      obtain rfl : ad231 = ad232 := (by injection e232)
      have qi232 : (0 < x220001_13.length) = True := eq_true (by omega)
      (try rw [show ((0 : Int)).toNat = 0 from rfl] at hx232_0)
      (try rw [show 0 * 5 = 0 from rfl] at hx232_0)
      (try rw [Addr.add_zero'] at hx232_0)
      (try rw [show ((0 : Int)).toNat = 0 from rfl] at hx232_1)
      (try rw [show 0 * 5 = 0 from rfl] at hx232_1)
      (try rw [Addr.add_zero'] at hx232_1)
      (try rw [show ((0 : Int)).toNat = 0 from rfl] at hx232_2)
      (try rw [show 0 * 5 = 0 from rfl] at hx232_2)
      (try rw [Addr.add_zero'] at hx232_2)
      (try rw [show ((0 : Int)).toNat = 0 from rfl] at hx232_3)
      (try rw [show 0 * 5 = 0 from rfl] at hx232_3)
      (try rw [Addr.add_zero'] at hx232_3)
      (try rw [show ((0 : Int)).toNat = 0 from rfl] at hx232_4)
      (try rw [show 0 * 5 = 0 from rfl] at hx232_4)
      (try rw [Addr.add_zero'] at hx232_4)
      replace p232 := eq_true p232
      replace q232 := eq_true q232
      go_wp2
      go_loopg [8, 9, 10] kj13 (fun kq v8 v9 v10 w' => ∃ (x8_2 : ByteArray) (x9_2 : ByteArray) (x10_2 : Int), v8 = .string x8_2 ∧ v9 = .string x9_2 ∧ v10 = .int .i64 x10_2 ∧ Aside0 (millhandref18_Pick.l1 kq t218 x8_2 x9_2 x10_2 l0_0 a0_1 a0_2 a0_3 t218 x220001_13 = some (r1, r2, r3, r4)) ∧ Aside0 (kq ≤ kj13) ∧ Aside0 (Kd.R k28 28 w' w.heap.size (fun _ => True) (.slice (some ad231) x220001_13.length co59) x220001_13) ∧ Aside0 (w'.heap[gb215]? = some (.cells #[(.slice A0_0 l0_0.length c0_0), .int .i64 a0_1, .int .i64 a0_2, .string a0_3] 24 (0, 0))) ∧ Aside0 (w'.heap[gb216]? = some (.cells #[.int .i64 0, (.slice none 0 0), (.slice none 0 0)] 31 (0, 0))) ∧ Aside0 (w'.heap[gb219]? = some (.cells #[.int .i64 t218, (.slice (some ad231) x220001_13.length co59), (.slice none 0 0)] 31 (0, 0))) ∧ Aside0 (Below w.heap.size w w'))
      case atStart => exact ⟨((rd_T28 x220001_13 0).f3), ((rd_T28 x220001_13 0).f4), (1), (by first | rfl | (simp; done) | (simp [*]; done)), (by first | rfl | (simp; done) | (simp [*]; done)), (by first | rfl | (simp; done) | (simp [*]; done)), H', ⟨Nat.le_refl _⟩, ⟨by (with_reducible repeat (first | apply Kd.R_alloc | apply Kd.R_drewN | apply Kd.R_drew)); exact HO_220001.out⟩, ⟨by (with_reducible repeat (first | refine blk_drewN ?_ _ | refine blk_drew ?_ | refine blk_alloc ?_ _)); exact BK215.out⟩, ⟨by (with_reducible repeat (first | refine blk_drewN ?_ _ | refine blk_drew ?_ | refine blk_alloc ?_ _)); exact BK216.out⟩, ⟨by (with_reducible repeat (first | refine blk_drewN ?_ _ | refine blk_drew ?_ | refine blk_alloc ?_ _)); exact BK219.out⟩, ⟨by repeat (first | (with_reducible first | exact HB.out | apply below_alloc | apply pw_below_drewN | apply below_drew1 | refine below_set ?_ GE215.out | refine below_set ?_ GE216.out | refine below_set ?_ GE219.out) | exact HB.out)⟩⟩
      case round =>
       clear H'
       try clear c2
       try clear p2
       try clear q2
       try clear hx2
       try clear qi2
       try clear c3
       try clear c4
       try clear c5
       try clear p6
       try clear c22
       try clear p22
       try clear q22
       try clear hx22
       try clear p23
       try clear q23
       try clear hx23
       try clear qi23
       try clear c26
       try clear c26b0
       try clear c27
       try clear c27b0
       try clear c28
       try clear c28b0
       try clear c29
       try clear c29b0
       try clear c29b1
       try clear c30
       try clear c30b0
       try clear c31
       try clear c32
       try clear c33
       try clear c39
       try clear c39b0
       try clear c39b1
       try clear c40
       try clear c40b0
       try clear c41
       try clear c42
       try clear c43
       try clear c49
       try clear c50
       try clear c52
       try clear c53
       try clear c55
       try clear c55b0
       try clear c55b1
       try clear c56
       try clear c57
       try clear hcz34_0
       try clear hcz34_1
       try clear hcz34_2
       try clear hcz34_3
       try clear hcz44_0
       try clear hcz44_1
       try clear hcz44_2
       try clear hcz44_3
       try clear hcz51_0
       try clear hcz51_1
       try clear hcz51_2
       try clear hcz51_3
       try clear hcz54_0
       try clear hcz54_1
       try clear hcz54_2
       try clear hcz54_3
       try clear hcz58_0
       try clear hcz58_1
       try clear hcz58_2
       try clear hfz13_1
       try clear hfz13_2
       try clear hfz18_0
       try clear hfz18_1
       try clear hfz18_2
       try clear hfz18_3
       try clear hfz20_0
       try clear hfz20_1
       try clear hfz20_2
       try clear hfz20_3
       try clear hfz25_0
       try clear hfz25_1
       try clear hfz25_2
       try clear hfz34_0
       try clear hfz34_1
       try clear hfz34_2
       try clear hfz34_3
       try clear hfz44_0
       try clear hfz44_1
       try clear hfz44_2
       try clear hfz44_3
       try clear hfz51_0
       try clear hfz51_1
       try clear hfz51_2
       try clear hfz51_3
       try clear hfz54_0
       try clear hfz54_1
       try clear hfz54_2
       try clear hfz54_3
       try clear hfz58_0
       try clear hfz58_1
       try clear hfz58_2
       try clear hfz9_0
       try clear hfz9_1
       try clear hfz9_2
       try clear hfz9_3
       try clear hx220_0
       try clear hx221_0
       try clear hx222_0
       try clear hx222_1
       try clear hx222_2
       try clear hx222_3
       try clear hx222_4
       try clear hx226_0
       try clear hx227_0
       try clear hx227_1
       try clear hx227_2
       try clear hx227_3
       try clear hx227_4
       try clear hx231_0
       try clear hx231_1
       try clear hx231_2
       try clear hx231_3
       try clear hx231_4
       try clear hx232_0
       try clear hx232_1
       try clear hx232_2
       try clear hx232_3
       try clear hx232_4
       try clear p2
       try clear p22
       try clear p220
       try clear p221
       try clear p222
       try clear p226
       try clear p227
       try clear p231
       try clear p232
       try clear p6
       try clear q2
       try clear q22
       try clear q220
       try clear q221
       try clear q222
       try clear q226
       try clear q227
       try clear q231
       try clear q232
       obtain ⟨x8_2, x9_2, x10_2, rfl, rfl, rfl, HA, HK2, HO_220001, BK215, BK216, BK219, HB⟩ := hrel
       cases gk with
       | zero => exact absurd HA.out (by simp [millhandref18_Pick.l1])
       | succ k2 =>
        have H := HA.out
        clear HA
        simp only [millhandref18_Pick.l1] at H
        by_cases c60 : x10_2 < (x220001_13.length : Int)
        ·
         rw [if_pos c60] at H
         have c60b0 : decide (x10_2 < (x220001_13.length : Int)) = true := decide_eq_true c60
         clear c60
         by_cases c61 : 0 ≤ x10_2
         ·
          rw [if_pos c61] at H
          have c61b0 : decide (0 ≤ x10_2) = true := decide_eq_true c61
          clear c61
          by_cases c62 : (Op.bytesLess (((rd_T28 x220001_13 x10_2).f3).toList) x8_2.toList) = true
          ·
           rw [if_pos c62] at H
           have c62b0 : (Op.bytesLess (((rd_T28 x220001_13 x10_2).f3).toList) x8_2.toList) = true := c62
           clear c62
           by_cases c63 : (Op.bytesLess x9_2.toList (((rd_T28 x220001_13 x10_2).f4).toList)) = true
           ·
            rw [if_pos c63] at H
            have c63b0 : (Op.bytesLess x9_2.toList (((rd_T28 x220001_13 x10_2).f4).toList)) = true := c63
            clear c63
            have H' := Aside0.mk H
            clear H
            have hnb64 := NB219_215.out
            have hnc64 := NB215_219.out
            have hnb65 := NB219_216.out
            have hnc65 := NB216_219.out
            have hcz66_0 : wr.cell? ⟨gb219, 0, none⟩ = some (.int .i64 t218) := (blk_cell BK219.out 0).trans rfl
            have hcz66_1 : wr.cell? ⟨gb219, 1, none⟩ = some (.slice (some ad231) x220001_13.length co59) := (blk_cell BK219.out 1).trans rfl
            have hcz66_2 : wr.cell? ⟨gb219, 2, none⟩ = some (.slice none 0 0) := (blk_cell BK219.out 2).trans rfl
            have hfz66_0 := blk_frozen BK219.out 0
            have hfz66_1 := blk_frozen BK219.out 1
            have hfz66_2 := blk_frozen BK219.out 2
            have p237 : 0 ≤ (x10_2 : Int) := of_decide_eq_true (by first | (with_reducible assumption) | assumption)
            have q237 : x10_2 < (x220001_13.length : Int) := of_decide_eq_true (by first | (with_reducible assumption) | assumption)
            obtain ⟨ad237, e237, hx237_0, hx237_1, hx237_2, hx237_3, hx237_4⟩ := at_T28 (Kd.R_reads' HO_220001.out).2.2 x10_2 p237 q237
            obtain rfl : ad231 = ad237 := (by injection e237)
            replace p237 := eq_true p237
            replace q237 := eq_true q237
            have p238 : 0 ≤ (x10_2 : Int) := of_decide_eq_true (by first | (with_reducible assumption) | assumption)
            have q238 : x10_2 < (x220001_13.length : Int) := of_decide_eq_true (by first | (with_reducible assumption) | assumption)
            obtain ⟨ad238, e238, hx238_0, hx238_1, hx238_2, hx238_3, hx238_4⟩ := at_T28 (Kd.R_reads' HO_220001.out).2.2 x10_2 p238 q238
            obtain rfl : ad231 = ad238 := (by injection e238)
            replace p238 := eq_true p238
            replace q238 := eq_true q238
            have p239 : 0 ≤ (x10_2 : Int) := of_decide_eq_true (by first | (with_reducible assumption) | assumption)
            have q239 : x10_2 < (x220001_13.length : Int) := of_decide_eq_true (by first | (with_reducible assumption) | assumption)
            obtain ⟨ad239, e239, hx239_0, hx239_1, hx239_2, hx239_3, hx239_4⟩ := at_T28 (Kd.R_reads' HO_220001.out).2.2 x10_2 p239 q239
            obtain rfl : ad231 = ad239 := (by injection e239)
            replace p239 := eq_true p239
            replace q239 := eq_true q239
            have p240 : 0 ≤ (x10_2 : Int) := of_decide_eq_true (by first | (with_reducible assumption) | assumption)
            have q240 : x10_2 < (x220001_13.length : Int) := of_decide_eq_true (by first | (with_reducible assumption) | assumption)
            obtain ⟨ad240, e240, hx240_0, hx240_1, hx240_2, hx240_3, hx240_4⟩ := at_T28 (Kd.R_reads' HO_220001.out).2.2 x10_2 p240 q240
            obtain rfl : ad231 = ad240 := (by injection e240)
            replace p240 := eq_true p240
            replace q240 := eq_true q240
            go_wp2
            go_roundg k2
            case measure => have := HJ13.out; have := HK2.out; omega
            case rel => exact ⟨((rd_T28 x220001_13 x10_2).f3), ((rd_T28 x220001_13 x10_2).f4), (wrap64 (x10_2 + 1)), (by first | rfl | (simp; done) | (simp [*]; done)), (by first | rfl | (simp; done) | (simp [*]; done)), (by first | rfl | (simp; done) | (simp [*]; done)), H', ⟨by have := HJ13.out; have := HK2.out; omega⟩, ⟨by (with_reducible repeat (first | apply Kd.R_alloc | apply Kd.R_drewN | apply Kd.R_drew)); exact HO_220001.out⟩, ⟨by (with_reducible repeat (first | refine blk_drewN ?_ _ | refine blk_drew ?_ | refine blk_alloc ?_ _)); exact BK215.out⟩, ⟨by (with_reducible repeat (first | refine blk_drewN ?_ _ | refine blk_drew ?_ | refine blk_alloc ?_ _)); exact BK216.out⟩, ⟨by (with_reducible repeat (first | refine blk_drewN ?_ _ | refine blk_drew ?_ | refine blk_alloc ?_ _)); exact BK219.out⟩, ⟨by repeat (first | (with_reducible first | exact HB.out | apply below_alloc | apply pw_below_drewN | apply below_drew1 | refine below_set ?_ GE215.out | refine below_set ?_ GE216.out | refine below_set ?_ GE219.out) | exact HB.out)⟩⟩
           ·
            rw [if_neg c63] at H
            have c63b0 : (Op.bytesLess x9_2.toList (((rd_T28 x220001_13 x10_2).f4).toList)) = false := by simpa using c63
            clear c63
            have H' := Aside0.mk H
            clear H
            have hnb67 := NB219_215.out
            have hnc67 := NB215_219.out
            have hnb68 := NB219_216.out
            have hnc68 := NB216_219.out
            have hcz69_0 : wr.cell? ⟨gb219, 0, none⟩ = some (.int .i64 t218) := (blk_cell BK219.out 0).trans rfl
            have hcz69_1 : wr.cell? ⟨gb219, 1, none⟩ = some (.slice (some ad231) x220001_13.length co59) := (blk_cell BK219.out 1).trans rfl
            have hcz69_2 : wr.cell? ⟨gb219, 2, none⟩ = some (.slice none 0 0) := (blk_cell BK219.out 2).trans rfl
            have hfz69_0 := blk_frozen BK219.out 0
            have hfz69_1 := blk_frozen BK219.out 1
            have hfz69_2 := blk_frozen BK219.out 2
            have p237 : 0 ≤ (x10_2 : Int) := of_decide_eq_true (by first | (with_reducible assumption) | assumption)
            have q237 : x10_2 < (x220001_13.length : Int) := of_decide_eq_true (by first | (with_reducible assumption) | assumption)
            obtain ⟨ad237, e237, hx237_0, hx237_1, hx237_2, hx237_3, hx237_4⟩ := at_T28 (Kd.R_reads' HO_220001.out).2.2 x10_2 p237 q237
            obtain rfl : ad231 = ad237 := (by injection e237)
            replace p237 := eq_true p237
            replace q237 := eq_true q237
            have p238 : 0 ≤ (x10_2 : Int) := of_decide_eq_true (by first | (with_reducible assumption) | assumption)
            have q238 : x10_2 < (x220001_13.length : Int) := of_decide_eq_true (by first | (with_reducible assumption) | assumption)
            obtain ⟨ad238, e238, hx238_0, hx238_1, hx238_2, hx238_3, hx238_4⟩ := at_T28 (Kd.R_reads' HO_220001.out).2.2 x10_2 p238 q238
            obtain rfl : ad231 = ad238 := (by injection e238)
            replace p238 := eq_true p238
            replace q238 := eq_true q238
            have p239 : 0 ≤ (x10_2 : Int) := of_decide_eq_true (by first | (with_reducible assumption) | assumption)
            have q239 : x10_2 < (x220001_13.length : Int) := of_decide_eq_true (by first | (with_reducible assumption) | assumption)
            obtain ⟨ad239, e239, hx239_0, hx239_1, hx239_2, hx239_3, hx239_4⟩ := at_T28 (Kd.R_reads' HO_220001.out).2.2 x10_2 p239 q239
            obtain rfl : ad231 = ad239 := (by injection e239)
            replace p239 := eq_true p239
            replace q239 := eq_true q239
            go_wp2
            go_roundg k2
            case measure => have := HJ13.out; have := HK2.out; omega
            case rel => exact ⟨((rd_T28 x220001_13 x10_2).f3), (x9_2), (wrap64 (x10_2 + 1)), (by first | rfl | (simp; done) | (simp [*]; done)), (by first | rfl | (simp; done) | (simp [*]; done)), (by first | rfl | (simp; done) | (simp [*]; done)), H', ⟨by have := HJ13.out; have := HK2.out; omega⟩, ⟨by (with_reducible repeat (first | apply Kd.R_alloc | apply Kd.R_drewN | apply Kd.R_drew)); exact HO_220001.out⟩, ⟨by (with_reducible repeat (first | refine blk_drewN ?_ _ | refine blk_drew ?_ | refine blk_alloc ?_ _)); exact BK215.out⟩, ⟨by (with_reducible repeat (first | refine blk_drewN ?_ _ | refine blk_drew ?_ | refine blk_alloc ?_ _)); exact BK216.out⟩, ⟨by (with_reducible repeat (first | refine blk_drewN ?_ _ | refine blk_drew ?_ | refine blk_alloc ?_ _)); exact BK219.out⟩, ⟨by repeat (first | (with_reducible first | exact HB.out | apply below_alloc | apply pw_below_drewN | apply below_drew1 | refine below_set ?_ GE215.out | refine below_set ?_ GE216.out | refine below_set ?_ GE219.out) | exact HB.out)⟩⟩
          ·
           rw [if_neg c62] at H
           have c62b0 : (Op.bytesLess (((rd_T28 x220001_13 x10_2).f3).toList) x8_2.toList) = false := by simpa using c62
           clear c62
           by_cases c70 : (Op.bytesLess x9_2.toList (((rd_T28 x220001_13 x10_2).f4).toList)) = true
           ·
            rw [if_pos c70] at H
            have c70b0 : (Op.bytesLess x9_2.toList (((rd_T28 x220001_13 x10_2).f4).toList)) = true := c70
            clear c70
            have H' := Aside0.mk H
            clear H
            have hnb71 := NB219_215.out
            have hnc71 := NB215_219.out
            have hnb72 := NB219_216.out
            have hnc72 := NB216_219.out
            have hcz73_0 : wr.cell? ⟨gb219, 0, none⟩ = some (.int .i64 t218) := (blk_cell BK219.out 0).trans rfl
            have hcz73_1 : wr.cell? ⟨gb219, 1, none⟩ = some (.slice (some ad231) x220001_13.length co59) := (blk_cell BK219.out 1).trans rfl
            have hcz73_2 : wr.cell? ⟨gb219, 2, none⟩ = some (.slice none 0 0) := (blk_cell BK219.out 2).trans rfl
            have hfz73_0 := blk_frozen BK219.out 0
            have hfz73_1 := blk_frozen BK219.out 1
            have hfz73_2 := blk_frozen BK219.out 2
            have p237 : 0 ≤ (x10_2 : Int) := of_decide_eq_true (by first | (with_reducible assumption) | assumption)
            have q237 : x10_2 < (x220001_13.length : Int) := of_decide_eq_true (by first | (with_reducible assumption) | assumption)
            obtain ⟨ad237, e237, hx237_0, hx237_1, hx237_2, hx237_3, hx237_4⟩ := at_T28 (Kd.R_reads' HO_220001.out).2.2 x10_2 p237 q237
            obtain rfl : ad231 = ad237 := (by injection e237)
            replace p237 := eq_true p237
            replace q237 := eq_true q237
            have p241 : 0 ≤ (x10_2 : Int) := of_decide_eq_true (by first | (with_reducible assumption) | assumption)
            have q241 : x10_2 < (x220001_13.length : Int) := of_decide_eq_true (by first | (with_reducible assumption) | assumption)
            obtain ⟨ad241, e241, hx241_0, hx241_1, hx241_2, hx241_3, hx241_4⟩ := at_T28 (Kd.R_reads' HO_220001.out).2.2 x10_2 p241 q241
            obtain rfl : ad231 = ad241 := (by injection e241)
            replace p241 := eq_true p241
            replace q241 := eq_true q241
            have p242 : 0 ≤ (x10_2 : Int) := of_decide_eq_true (by first | (with_reducible assumption) | assumption)
            have q242 : x10_2 < (x220001_13.length : Int) := of_decide_eq_true (by first | (with_reducible assumption) | assumption)
            obtain ⟨ad242, e242, hx242_0, hx242_1, hx242_2, hx242_3, hx242_4⟩ := at_T28 (Kd.R_reads' HO_220001.out).2.2 x10_2 p242 q242
            obtain rfl : ad231 = ad242 := (by injection e242)
            replace p242 := eq_true p242
            replace q242 := eq_true q242
            go_wp2
            go_roundg k2
            case measure => have := HJ13.out; have := HK2.out; omega
            case rel => exact ⟨(x8_2), ((rd_T28 x220001_13 x10_2).f4), (wrap64 (x10_2 + 1)), (by first | rfl | (simp; done) | (simp [*]; done)), (by first | rfl | (simp; done) | (simp [*]; done)), (by first | rfl | (simp; done) | (simp [*]; done)), H', ⟨by have := HJ13.out; have := HK2.out; omega⟩, ⟨by (with_reducible repeat (first | apply Kd.R_alloc | apply Kd.R_drewN | apply Kd.R_drew)); exact HO_220001.out⟩, ⟨by (with_reducible repeat (first | refine blk_drewN ?_ _ | refine blk_drew ?_ | refine blk_alloc ?_ _)); exact BK215.out⟩, ⟨by (with_reducible repeat (first | refine blk_drewN ?_ _ | refine blk_drew ?_ | refine blk_alloc ?_ _)); exact BK216.out⟩, ⟨by (with_reducible repeat (first | refine blk_drewN ?_ _ | refine blk_drew ?_ | refine blk_alloc ?_ _)); exact BK219.out⟩, ⟨by repeat (first | (with_reducible first | exact HB.out | apply below_alloc | apply pw_below_drewN | apply below_drew1 | refine below_set ?_ GE215.out | refine below_set ?_ GE216.out | refine below_set ?_ GE219.out) | exact HB.out)⟩⟩
           ·
            rw [if_neg c70] at H
            have c70b0 : (Op.bytesLess x9_2.toList (((rd_T28 x220001_13 x10_2).f4).toList)) = false := by simpa using c70
            clear c70
            have H' := Aside0.mk H
            clear H
            have hnb74 := NB219_215.out
            have hnc74 := NB215_219.out
            have hnb75 := NB219_216.out
            have hnc75 := NB216_219.out
            have hcz76_0 : wr.cell? ⟨gb219, 0, none⟩ = some (.int .i64 t218) := (blk_cell BK219.out 0).trans rfl
            have hcz76_1 : wr.cell? ⟨gb219, 1, none⟩ = some (.slice (some ad231) x220001_13.length co59) := (blk_cell BK219.out 1).trans rfl
            have hcz76_2 : wr.cell? ⟨gb219, 2, none⟩ = some (.slice none 0 0) := (blk_cell BK219.out 2).trans rfl
            have hfz76_0 := blk_frozen BK219.out 0
            have hfz76_1 := blk_frozen BK219.out 1
            have hfz76_2 := blk_frozen BK219.out 2
            have p237 : 0 ≤ (x10_2 : Int) := of_decide_eq_true (by first | (with_reducible assumption) | assumption)
            have q237 : x10_2 < (x220001_13.length : Int) := of_decide_eq_true (by first | (with_reducible assumption) | assumption)
            obtain ⟨ad237, e237, hx237_0, hx237_1, hx237_2, hx237_3, hx237_4⟩ := at_T28 (Kd.R_reads' HO_220001.out).2.2 x10_2 p237 q237
            obtain rfl : ad231 = ad237 := (by injection e237)
            replace p237 := eq_true p237
            replace q237 := eq_true q237
            have p241 : 0 ≤ (x10_2 : Int) := of_decide_eq_true (by first | (with_reducible assumption) | assumption)
            have q241 : x10_2 < (x220001_13.length : Int) := of_decide_eq_true (by first | (with_reducible assumption) | assumption)
            obtain ⟨ad241, e241, hx241_0, hx241_1, hx241_2, hx241_3, hx241_4⟩ := at_T28 (Kd.R_reads' HO_220001.out).2.2 x10_2 p241 q241
            obtain rfl : ad231 = ad241 := (by injection e241)
            replace p241 := eq_true p241
            replace q241 := eq_true q241
            go_wp2
            go_roundg k2
            case measure => have := HJ13.out; have := HK2.out; omega
            case rel => exact ⟨(x8_2), (x9_2), (wrap64 (x10_2 + 1)), (by first | rfl | (simp; done) | (simp [*]; done)), (by first | rfl | (simp; done) | (simp [*]; done)), (by first | rfl | (simp; done) | (simp [*]; done)), H', ⟨by have := HJ13.out; have := HK2.out; omega⟩, ⟨by (with_reducible repeat (first | apply Kd.R_alloc | apply Kd.R_drewN | apply Kd.R_drew)); exact HO_220001.out⟩, ⟨by (with_reducible repeat (first | refine blk_drewN ?_ _ | refine blk_drew ?_ | refine blk_alloc ?_ _)); exact BK215.out⟩, ⟨by (with_reducible repeat (first | refine blk_drewN ?_ _ | refine blk_drew ?_ | refine blk_alloc ?_ _)); exact BK216.out⟩, ⟨by (with_reducible repeat (first | refine blk_drewN ?_ _ | refine blk_drew ?_ | refine blk_alloc ?_ _)); exact BK219.out⟩, ⟨by repeat (first | (with_reducible first | exact HB.out | apply below_alloc | apply pw_below_drewN | apply below_drew1 | refine below_set ?_ GE215.out | refine below_set ?_ GE216.out | refine below_set ?_ GE219.out) | exact HB.out)⟩⟩
         ·
          rw [if_neg c61] at H
          exact absurd H (by simp)
        ·
         rw [if_neg c60] at H
         have c60b0 : decide (x10_2 < (x220001_13.length : Int)) = false := decide_eq_false c60
         clear c60
         obtain ⟨ji77, hji77⟩ : ∃ j_ : Int, (wrap64 (t218 + 1)) = j_ := ⟨_, rfl⟩
         replace H : (if 0 ≤ (ji77) then (if (ji77) < (l0_0.length : Int) then ((millhandref16_Meet.f k2 (rd_L3 l0_0 (ji77)) x8_2 x9_2).bind fun t234 => (some (t218, x220001_13, t234, 0))) else (none)) else (none)) = some (r1, r2, r3, r4) := by first | (rw [hji77] at H; exact H) | (simp only [hji77] at H ⊢; exact H)
         have hji77w : (IntKind.i64.wrap (t218 + 1)) = ji77 := (i64_w _).trans hji77
         by_cases c78 : 0 ≤ (ji77)
         ·
          rw [if_pos c78] at H
          have c78b0 : decide (0 ≤ (ji77)) = true := decide_eq_true c78
          clear c78
          by_cases c79 : (ji77) < (l0_0.length : Int)
          ·
           rw [if_pos c79] at H
           have c79b0 : decide ((ji77) < (l0_0.length : Int)) = true := decide_eq_true c79
           clear c79
           replace H := Option.bind_eq_some_iff.mp H
           obtain ⟨t234, A800, H⟩ := H
           replace H : (some (t218, x220001_13, t234, 0)) = some (r1, r2, r3, r4) := H
           have A80 := Aside0.mk A800
           clear A800
           simp only [Option.some.injEq, Prod.mk.injEq] at H
           obtain ⟨rfl, rfl, rfl, rfl⟩ := H
           have hnb81 := NB219_215.out
           have hnc81 := NB215_219.out
           have hnb82 := NB219_216.out
           have hnc82 := NB216_219.out
           have hcz83_0 : wr.cell? ⟨gb219, 0, none⟩ = some (.int .i64 t218) := (blk_cell BK219.out 0).trans rfl
           have hcz83_1 : wr.cell? ⟨gb219, 1, none⟩ = some (.slice (some ad231) x220001_13.length co59) := (blk_cell BK219.out 1).trans rfl
           have hcz83_2 : wr.cell? ⟨gb219, 2, none⟩ = some (.slice none 0 0) := (blk_cell BK219.out 2).trans rfl
           have hfz83_0 := blk_frozen BK219.out 0
           have hfz83_1 := blk_frozen BK219.out 1
           have hfz83_2 := blk_frozen BK219.out 2
           have hnb84 := NB215_216.out
           have hnc84 := NB216_215.out
           have hcz85_0 : wr.cell? ⟨gb215, 0, none⟩ = some (.slice A0_0 l0_0.length c0_0) := (blk_cell BK215.out 0).trans rfl
           have hcz85_1 : wr.cell? ⟨gb215, 1, none⟩ = some (.int .i64 a0_1) := (blk_cell BK215.out 1).trans rfl
           have hcz85_2 : wr.cell? ⟨gb215, 2, none⟩ = some (.int .i64 a0_2) := (blk_cell BK215.out 2).trans rfl
           have hcz85_3 : wr.cell? ⟨gb215, 3, none⟩ = some (.string a0_3) := (blk_cell BK215.out 3).trans rfl
           have hfz85_0 := blk_frozen BK215.out 0
           have hfz85_1 := blk_frozen BK215.out 1
           have hfz85_2 := blk_frozen BK215.out 2
           have hfz85_3 := blk_frozen BK215.out 3
           have p233 : 0 ≤ ((ji77) : Int) := of_decide_eq_true (by first | (with_reducible assumption) | assumption)
           have q233 : (ji77) < (l0_0.length : Int) := of_decide_eq_true (by first | (with_reducible assumption) | assumption)
           obtain ⟨ad233, A233_0, c233_0, e233, hx233_0, hl233_0, hi233_0⟩ := at_L3 HR0_0.out (ji77) p233 q233
           cases e233
           replace hx233_0 := cl_ HB.out hx233_0
           have HR233_0 := Aside0.mk hi233_0
           have HC233_0 := Aside0.mk hl233_0
           clear hi233_0 hl233_0
           replace p233 := eq_true p233
           replace q233 := eq_true q233
           go_wp2_with (first | ((with_reducible refine gate_callee (f := 29) rfl ?_); refine goesL_ (some 108) rfl rfl Try.func29 (by kernel_rfl) rfl #[.slice A233_0 (rd_L3 l0_0 (ji77)).length c233_0, .string x8_2, .string x9_2] rfl (by (try simp only [List.map_toArray, List.map_cons, List.map_nil]); first | done | (simp only [hji77]; rfl) | rfl | (simp only [List.length_drop, List.length_take]; rfl)) ?_; (with_reducible refine (millhandref16_Meet.calls k2 _ _ (rd_L3 l0_0 (ji77)) x8_2 x9_2 t234 _ ?side1 ?side2 A80.out).mono ?_); (case side1 => repeat (first | exact (Kd.C_below HR233_0.out HB.out) | (with_reducible refine Kd.C_alloc ?_ _) | (with_reducible refine Kd.C_drewN ?_ _) | (with_reducible refine Kd.C_drew ?_))); (case side2 => exact HC233_0.out); rintro e w86 ⟨v235, rfl, ho0, hb⟩; refine ⟨_, rfl, ?_⟩; have n0_ := Aside0.mk (Kd.R_elder' (by (with_reducible repeat (first | apply Kd.R_alloc | apply Kd.R_drewN | apply Kd.R_drew)); exact HO_220001.out) (Kd.R_base ho0) hb); have n1_ := Aside0.mk (Kd.R_lower (Kd.R_new' ho0 (Kd.R_lt (by (with_reducible repeat (first | apply Kd.R_alloc | apply Kd.R_drewN | apply Kd.R_drew)); exact HO_220001.out))) (below_size (by repeat (first | (with_reducible first | exact HB.out | apply below_alloc | apply pw_below_drewN | apply below_drew1 | refine below_set ?_ GE215.out | refine below_set ?_ GE216.out | refine below_set ?_ GE219.out) | exact HB.out)))); have n2_ := Aside0.mk (blk_below (g := gb215) (o := .cells #[.slice (some ad233) l0_0.length c0_0, .int .i64 a0_1, .int .i64 a0_2, .string a0_3] 24 (0, 0)) (by (with_reducible repeat (first | refine blk_drewN ?_ _ | refine blk_drew ?_ | refine blk_alloc ?_ _)); exact BK215.out) hb); have n3_ := Aside0.mk (blk_below (g := gb216) (o := .cells #[.int .i64 0, .slice none 0 0, .slice none 0 0] 31 (0, 0)) (by (with_reducible repeat (first | refine blk_drewN ?_ _ | refine blk_drew ?_ | refine blk_alloc ?_ _)); exact BK216.out) hb); have n4_ := Aside0.mk (blk_below (g := gb219) (o := .cells #[.int .i64 t218, .slice (some ad231) x220001_13.length co59, .slice none 0 0] 31 (0, 0)) (by (with_reducible repeat (first | refine blk_drewN ?_ _ | refine blk_drew ?_ | refine blk_alloc ?_ _)); exact BK219.out) hb); have n5_ := Aside0.mk (below_step (by repeat (first | (with_reducible first | exact HB.out | apply below_alloc | apply pw_below_drewN | apply below_drew1 | refine below_set ?_ GE215.out | refine below_set ?_ GE216.out | refine below_set ?_ GE219.out) | exact HB.out)) hb); clear HO_220001; clear BK215; clear BK216; clear BK219; clear HB; have HO_220001 := n0_; have HO236 := n1_; have BK215 := n2_; have BK216 := n3_; have BK219 := n4_; have HB := n5_; clear n0_ n1_ n2_ n3_ n4_ n5_; (try clear hb); (try clear hb2); (try clear hk); (try clear hi); (try clear ho0); obtain ⟨Ao87, co87, eo87⟩ := Kd.R_slice HO236.out; subst eo87; have hcz88_0 : w86.cell? ⟨gb219, 0, none⟩ = some (.int .i64 t218) := (blk_cell BK219.out 0).trans rfl; have hcz88_1 : w86.cell? ⟨gb219, 1, none⟩ = some (.slice (some ad231) x220001_13.length co59) := (blk_cell BK219.out 1).trans rfl; have hcz88_2 : w86.cell? ⟨gb219, 2, none⟩ = some (.slice none 0 0) := (blk_cell BK219.out 2).trans rfl; have hfz88_0 := blk_frozen BK219.out 0; have hfz88_1 := blk_frozen BK219.out 1; have hfz88_2 := blk_frozen BK219.out 2; have hcz89_0 : w86.cell? ⟨gb216, 0, none⟩ = some (.int .i64 0) := (blk_cell BK216.out 0).trans rfl; have hcz89_1 : w86.cell? ⟨gb216, 1, none⟩ = some (.slice none 0 0) := (blk_cell BK216.out 1).trans rfl; have hcz89_2 : w86.cell? ⟨gb216, 2, none⟩ = some (.slice none 0 0) := (blk_cell BK216.out 2).trans rfl; have hfz89_0 := blk_frozen BK216.out 0; have hfz89_1 := blk_frozen BK216.out 1; have hfz89_2 := blk_frozen BK216.out 2))
           refine bodyPost_ret (results_ct rfl _ _ gb216 31 #[.int .i64 t218, .slice (some ad231) x220001_13.length co59, .slice Ao87 t234.length co87] (0, 0) _ rfl (by (with_reducible repeat (first | refine blk_drewN ?_ _ | refine blk_drew ?_ | refine blk_alloc ?_ _)); refine blk_put (cs := #[.int .i64 t218, .slice (some ad231) x220001_13.length co59, .slice none 0 0]) ?_ 2 _ rfl; (with_reducible repeat (first | refine blk_drewN ?_ _ | refine blk_drew ?_ | refine blk_alloc ?_ _)); refine blk_put (cs := #[.int .i64 t218, .slice none 0 0, .slice none 0 0]) ?_ 1 _ rfl; (with_reducible repeat (first | refine blk_drewN ?_ _ | refine blk_drew ?_ | refine blk_alloc ?_ _)); refine blk_put (cs := #[.int .i64 0, .slice none 0 0, .slice none 0 0]) ?_ 0 _ rfl; (with_reducible repeat (first | refine blk_drewN ?_ _ | refine blk_drew ?_ | refine blk_alloc ?_ _)); refine blk_far ?_ NB216_219.out _; (with_reducible repeat (first | refine blk_drewN ?_ _ | refine blk_drew ?_ | refine blk_alloc ?_ _)); exact BK216.out) Try.underlying31 rfl (by kernel_rfl)) rfl ?_
           exact ⟨_, _, by first | rfl | (simp [errW_none, errW_some] <;> rfl) | (simp only [← hji77]; first | rfl | (simp [errW_none, errW_some] <;> rfl)) | (simp [*, errW_none, errW_some] <;> rfl) | exact ret_ie _ | (simp [*, errW_none, errW_some, bne]; done), by (with_reducible repeat (first | apply Kd.R_alloc | apply Kd.R_drewN | apply Kd.R_drew)); exact Kd.R_mono (Kd.R_far (p := ⟨gb216, 2, none⟩) (Kd.R_far (p := ⟨gb216, 1, none⟩) (Kd.R_far (p := ⟨gb216, 0, none⟩) (Kd.R_far (p := ⟨gb219, 2, none⟩) (Kd.R_types (Kd.R_types HO_220001.out BK219.out (by decide)) BK216.out (by decide)) (fun _ hk => hk.1.2) (.slice Ao87 t234.length co87)) (fun _ hk => hk.2) (.int .i64 t218)) (fun _ hk => hk.2) (.slice (some ad231) x220001_13.length co59)) (fun _ hk => hk.2) (.slice Ao87 t234.length co87)) (fun _ hk => hk.1.1.2), by (with_reducible repeat (first | apply Kd.R_alloc | apply Kd.R_drewN | apply Kd.R_drew)); exact Kd.R_mono (Kd.R_far (p := ⟨gb216, 2, none⟩) (Kd.R_far (p := ⟨gb216, 1, none⟩) (Kd.R_far (p := ⟨gb216, 0, none⟩) (Kd.R_far (p := ⟨gb219, 2, none⟩) (Kd.R_types (Kd.R_types HO236.out BK219.out (by decide)) BK216.out (by decide)) (fun _ hk => hk.1.2) (.slice Ao87 t234.length co87)) (fun _ hk => hk.2) (.int .i64 t218)) (fun _ hk => hk.2) (.slice (some ad231) x220001_13.length co59)) (fun _ hk => hk.2) (.slice Ao87 t234.length co87)) (fun _ hk => hk.1.1.2), by repeat (first | (with_reducible first | exact HB.out | apply below_alloc | apply pw_below_drewN | apply below_drew1 | refine below_set ?_ GE215.out | refine below_set ?_ GE216.out | refine below_set ?_ GE219.out) | exact HB.out)⟩
          ·
           rw [if_neg c79] at H
           exact absurd H (by simp)
         ·
          rw [if_neg c78] at H
          exact absurd H (by simp)
     ·
      rw [if_neg c55] at H
      exact absurd H (by simp)
 ·
  rw [if_neg c3] at H
  have c3b0 : (t217 == 0) = false := beq_eq_false_iff_ne.mpr c3
  have c3b1 : (t217 != 0) = true := bne_iff_ne.mpr c3
  simp only [Option.some.injEq, Prod.mk.injEq] at H
  obtain ⟨rfl, rfl, rfl, rfl⟩ := H
  go_enter Try.func16, Try.ntmps16
  go_wp2_with (first | ((with_reducible refine gate_dst (N := 1) rfl ?_); refine box_event ?hg (N := 1) ?hd (cs := #[.slice A0_0 l0_0.length c0_0, .int .i64 a0_1, .int .i64 a0_2, .string a0_3]) (t := 24) ?hr ?_; (case hd => rfl); (case hg => rfl); (case hr => first | (go_simp; done) | (go_simp; rfl)); intro gb215 hg w90 hbox hb; have n0_ := Aside0.mk (below_step (by repeat (first | (with_reducible first | exact HB.out | apply below_alloc | apply pw_below_drewN | apply below_drew1) | exact HB.out)) hb); have n1_ := Aside0.mk (hbox); have n2_ := Aside0.mk ((by rw [hg]; exact (below_size (by repeat (first | (with_reducible first | exact HB.out | apply below_alloc | apply pw_below_drewN | apply below_drew1) | exact HB.out))) : w.heap.size ≤ gb215)); have n3_ := Aside0.mk ((by rw [hg]; exact (below_size (by repeat (first | (with_reducible first | exact HB.out | apply below_alloc | apply pw_below_drewN | apply below_drew1) | exact HB.out))) : w.heap.size ≤ gb215)); clear HB; have HB := n0_; have BK215 := n1_; have GW215 := n2_; have GE215 := n3_; clear n0_ n1_ n2_ n3_; clear hb hbox hg) | ((with_reducible refine gate_dst (N := 2) rfl ?_); refine box_event ?hg (N := 2) ?hd (cs := #[.int .i64 0, .slice none 0 0, .slice none 0 0]) (t := 31) ?hr ?_; (case hd => rfl); (case hg => rfl); (case hr => first | (go_simp; done) | (go_simp; rfl)); intro gb216 hg w91 hbox hb; have n0_ := Aside0.mk (blk_below (g := gb215) (o := .cells #[.slice A0_0 l0_0.length c0_0, .int .i64 a0_1, .int .i64 a0_2, .string a0_3] 24 (0, 0)) (by (with_reducible repeat (first | refine blk_drewN ?_ _ | refine blk_drew ?_ | refine blk_alloc ?_ _)); exact BK215.out) hb); have n1_ := Aside0.mk (below_step (by repeat (first | (with_reducible first | exact HB.out | apply below_alloc | apply pw_below_drewN | apply below_drew1 | refine below_set ?_ GE215.out) | exact HB.out)) hb); have n2_ := Aside0.mk (hbox); have n3_ := Aside0.mk ((by rw [hg]; exact (below_size (by repeat (first | (with_reducible first | exact HB.out | apply below_alloc | apply pw_below_drewN | apply below_drew1 | refine below_set ?_ GE215.out) | exact HB.out))) : w.heap.size ≤ gb216)); have n4_ := Aside0.mk ((by rw [hg]; exact (below_size (by repeat (first | (with_reducible first | exact HB.out | apply below_alloc | apply pw_below_drewN | apply below_drew1 | refine below_set ?_ GE215.out) | exact HB.out))) : w.heap.size ≤ gb216)); have n5_ := Aside0.mk ((by rw [hg]; exact Nat.ne_of_lt (blk_lt (g := gb215) (o := .cells #[.slice A0_0 l0_0.length c0_0, .int .i64 a0_1, .int .i64 a0_2, .string a0_3] 24 (0, 0)) (by (with_reducible repeat (first | refine blk_drewN ?_ _ | refine blk_drew ?_ | refine blk_alloc ?_ _)); exact BK215.out)) : gb215 ≠ gb216)); have n6_ := Aside0.mk ((by rw [hg]; exact Nat.ne_of_gt (blk_lt (g := gb215) (o := .cells #[.slice A0_0 l0_0.length c0_0, .int .i64 a0_1, .int .i64 a0_2, .string a0_3] 24 (0, 0)) (by (with_reducible repeat (first | refine blk_drewN ?_ _ | refine blk_drew ?_ | refine blk_alloc ?_ _)); exact BK215.out)) : gb216 ≠ gb215)); clear BK215; clear HB; have BK215 := n0_; have HB := n1_; have BK216 := n2_; have GW216 := n3_; have GE216 := n4_; have NB215_216 := n5_; have NB216_215 := n6_; clear n0_ n1_ n2_ n3_ n4_ n5_ n6_; clear hb hbox hg; have hnb92 := NB215_216.out; have hnc92 := NB216_215.out; have hcz93_0 : w91.cell? ⟨gb215, 0, none⟩ = some (.slice A0_0 l0_0.length c0_0) := (blk_cell BK215.out 0).trans rfl; have hcz93_1 : w91.cell? ⟨gb215, 1, none⟩ = some (.int .i64 a0_1) := (blk_cell BK215.out 1).trans rfl; have hcz93_2 : w91.cell? ⟨gb215, 2, none⟩ = some (.int .i64 a0_2) := (blk_cell BK215.out 2).trans rfl; have hcz93_3 : w91.cell? ⟨gb215, 3, none⟩ = some (.string a0_3) := (blk_cell BK215.out 3).trans rfl; have hfz93_0 := blk_frozen BK215.out 0; have hfz93_1 := blk_frozen BK215.out 1; have hfz93_2 := blk_frozen BK215.out 2; have hfz93_3 := blk_frozen BK215.out 3) | ((with_reducible refine gate_callee (f := 26) rfl ?_); refine goesL_ (some 12) rfl rfl Try.func26 (by kernel_rfl) rfl #[.agg #[.slice A0_0 l0_0.length c0_0, .int .i64 a0_1, .int .i64 a0_2, .string a0_3]] rfl (by (try simp only [List.map_toArray, List.map_cons, List.map_nil]); first | done | rfl | (simp only [List.length_drop, List.length_take]; rfl)) ?_; (with_reducible refine (millhandref16_Check.calls k _ _ l0_0 a0_1 a0_2 a0_3 t217 _ ?side1 ?side2 A2.out).mono ?_); (case side1 => repeat (first | exact (Kd.C_below HR0_0.out HB.out) | (with_reducible refine Kd.C_alloc ?_ _) | (with_reducible refine Kd.C_drewN ?_ _) | (with_reducible refine Kd.C_drew ?_))); (case side2 => exact HC0_0.out); rintro e w94 ⟨rfl, hb⟩; refine ⟨_, rfl, ?_⟩; have n0_ := Aside0.mk (blk_below (g := gb215) (o := .cells #[.slice A0_0 l0_0.length c0_0, .int .i64 a0_1, .int .i64 a0_2, .string a0_3] 24 (0, 0)) (by (with_reducible repeat (first | refine blk_drewN ?_ _ | refine blk_drew ?_ | refine blk_alloc ?_ _)); exact BK215.out) hb); have n1_ := Aside0.mk (blk_below (g := gb216) (o := .cells #[.int .i64 0, .slice none 0 0, .slice none 0 0] 31 (0, 0)) (by (with_reducible repeat (first | refine blk_drewN ?_ _ | refine blk_drew ?_ | refine blk_alloc ?_ _)); exact BK216.out) hb); have n2_ := Aside0.mk (below_step (by repeat (first | (with_reducible first | exact HB.out | apply below_alloc | apply pw_below_drewN | apply below_drew1 | refine below_set ?_ GE215.out | refine below_set ?_ GE216.out) | exact HB.out)) hb); clear BK215; clear BK216; clear HB; have BK215 := n0_; have BK216 := n1_; have HB := n2_; clear n0_ n1_ n2_; (try clear hb); (try clear hb2); (try clear hk); (try clear hi); have hcz95_0 : w94.cell? ⟨gb216, 0, none⟩ = some (.int .i64 0) := (blk_cell BK216.out 0).trans rfl; have hcz95_1 : w94.cell? ⟨gb216, 1, none⟩ = some (.slice none 0 0) := (blk_cell BK216.out 1).trans rfl; have hcz95_2 : w94.cell? ⟨gb216, 2, none⟩ = some (.slice none 0 0) := (blk_cell BK216.out 2).trans rfl; have hfz95_0 := blk_frozen BK216.out 0; have hfz95_1 := blk_frozen BK216.out 1; have hfz95_2 := blk_frozen BK216.out 2))
  refine bodyPost_ret (results_ct rfl _ _ gb216 31 #[.int .i64 0, .slice none 0 0, .slice none 0 0] (0, 0) _ rfl (by (with_reducible repeat (first | refine blk_drewN ?_ _ | refine blk_drew ?_ | refine blk_alloc ?_ _)); refine blk_put (cs := #[.int .i64 0, .slice none 0 0, .slice none 0 0]) ?_ 2 _ rfl; (with_reducible repeat (first | refine blk_drewN ?_ _ | refine blk_drew ?_ | refine blk_alloc ?_ _)); refine blk_put (cs := #[.int .i64 0, .slice none 0 0, .slice none 0 0]) ?_ 1 _ rfl; (with_reducible repeat (first | refine blk_drewN ?_ _ | refine blk_drew ?_ | refine blk_alloc ?_ _)); refine blk_put (cs := #[.int .i64 0, .slice none 0 0, .slice none 0 0]) ?_ 0 _ rfl; (with_reducible repeat (first | refine blk_drewN ?_ _ | refine blk_drew ?_ | refine blk_alloc ?_ _)); exact BK216.out) Try.underlying31 rfl (by kernel_rfl)) rfl ?_
  exact ⟨_, _, by first | rfl | (simp [errW_none, errW_some] <;> rfl) | (simp [*, errW_none, errW_some] <;> rfl) | exact ret_ie _ | (simp [*, errW_none, errW_some, bne]; done), by first | exact Kd.R_nil _ _ _ _ _ | exact Kd.N_nil _ _ _ _ _ | exact Kd.V_nil _ _ _ _ _ | exact Kd.Q_nil _ _ _ _ _ | exact Kd.S_nil _ _ _ _ _, by first | exact Kd.R_nil _ _ _ _ _ | exact Kd.N_nil _ _ _ _ _ | exact Kd.V_nil _ _ _ _ _ | exact Kd.Q_nil _ _ _ _ _ | exact Kd.S_nil _ _ _ _ _, by repeat (first | (with_reducible first | exact HB.out | apply below_alloc | apply pw_below_drewN | apply below_drew1 | refine below_set ?_ GE215.out | refine below_set ?_ GE216.out) | exact HB.out)⟩

end Go.Proofs.Ytgeeignipammhaa.R

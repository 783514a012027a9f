/- Contracts of Go functions and what they come to, over the translation of this seat: made by a program of this session (print2.py). -/
import Derived.Test.YtgeeignipammhaaRKc
import Derived.Test.YtgeeignipammhaaRSc
import Derived.Test.YtgeeignipammhaaMx
import Derived.Test.YtgeeignipammhaaRx0
import Derived.Test.YtgeeignipammhaaRx2
import Derived.Test.YtgeeignipammhaaRx4
namespace Go.Proofs.Ytgeeignipammhaa.R
open Go.RowKit Go.Proofs.Ytgeeignipammhaa.Co Go.Proofs.Ytgeeignipammhaa.Mx Go.Proofs.Ytgeeignipammhaa.Ret Go.Proofs.Ytgeeignipammhaa.Plain Go.Proofs.YtgeeignipammhaaW.PrintWords Go.Proofs.YtgeeignipammhaaW.PrintLast Go.Proofs.YtgeeignipammhaaW.PrintMore
attribute [local go_sem] max2_str min2_str max2_int min2_int max_two min_two max_three min_three max_four min_four   -- for this text's walks alone
set_option linter.unusedVariables false
set_option linter.unusedSimpArgs false

/-! ### pick_Pick: function 8 -/
mutual
def pick_Pick.j0 : Nat → Int → List (List (S28)) → Int → Int → ByteArray → Int → List (S28) → Option (Int × (List (S28)) × (List (S28)) × Int)
 | 0, _, _, _, _, _, _, _ => none
 | k + 1, x6, x128000, x128001, x128002, x128003, x137000, x137001 => if 0 < (x137001.length : Int) then (pick_Pick.l0 k x6 ((rd_T28 x137001 0).f3) ((rd_T28 x137001 0).f4) x137001 (x137001.length : Int) 0 x128000 x128001 x128002 x128003 x137000 x137001) else (none)
def pick_Pick.l0 : Nat → Int → ByteArray → ByteArray → List (S28) → Int → Int → List (List (S28)) → Int → Int → ByteArray → Int → List (S28) → Option (Int × (List (S28)) × (List (S28)) × Int)
 | 0, _, _, _, _, _, _, _, _, _, _, _, _ => none
 | k + 1, x6, x10, x11, x64, x65, x66, x128000, x128001, x128002, x128003, x137000, x137001 => if x66 < x65 then (if 0 ≤ x66 then (if x66 < (x64.length : Int) then (pick_Pick.l0 k x6 (mnS x10 ((rd_T28 x64 x66).f3)) (mxS x11 ((rd_T28 x64 x66).f4)) x64 x65 (wrap64 (x66 + 1)) x128000 x128001 x128002 x128003 x137000 x137001) else (none)) else (none)) else ((version_Overlap.f k x128000 x128001 x128002 x128003 (wrap64 (x6 + 1)) x10 x11).bind fun bt144 => (some (x137000, x137001, bt144.1, 0)))
end
def pick_Pick.f (k : Nat) (l0_0 : List (List (S28))) (a0_1 : Int) (a0_2 : Int) (a0_3 : ByteArray) : Option (Int × (List (S28)) × (List (S28)) × Int) := (version_Check.f k l0_0 a0_1 a0_2 a0_3).bind fun t129 => (if t129 = 0 then ((some (lvF l0_0 4)).bind fun t130 => ((some (scoreS l0_0 t130)).bind fun t131 => (if t131 = 0 then (some (0, ([] : List (S28)), ([] : List (S28)), 6)) else (if 0 ≤ t130 then (if t130 < (l0_0.length : Int) then ((slices_Clone_api_Meta.f (rd_L3 l0_0 t130)).bind fun t133 => (if t130 > 0 then ((if 0 < t133.length then some (t133.take 1) else none).bind fun t137 => (pick_Pick.j0 k t130 l0_0 a0_1 a0_2 a0_3 t130 t137)) else (pick_Pick.j0 k t130 l0_0 a0_1 a0_2 a0_3 t130 t133))) else (none)) else (none))))) else (some (0, ([] : List (S28)), ([] : List (S28)), t129)))
set_option maxHeartbeats 8000000 in
set_option maxRecDepth 100000 in
theorem pick_Pick.calls (k : Nat) (A0_0 : Option Addr) (c0_0 : Nat) (l0_0 : List (List (S28))) (a0_1 : Int) (a0_2 : Int) (a0_3 : ByteArray) (r1 : Int) (r2 : List (S28)) (r3 : List (S28)) (r4 : Int) (w : World) (hr0_0 : Kd.C (Kd.slice 28 k28) w A0_0 l0_0.length l0_0) (hc0_0 : l0_0.length ≤ c0_0) (h : pick_Pick.f k l0_0 a0_1 a0_2 a0_3 = some (r1, r2, r3, r4)) :
  Calls Try.prog 8 #[.agg #[.slice A0_0 l0_0.length c0_0, .int .i64 a0_1, .int .i64 a0_2, .string a0_3]] w fun e w' => ∃ v1_ v2_ : Value, e = .returned (.tuple #[.agg #[.int .i64 r1, v1_, v2_], .int .i64 r4]) ∧ Kc.R k28 28 w' w.heap.size (fun k_ => some k_ ≠ (v2_ : Value).ownBlock) v1_ r2 ∧ Kc.R k28 28 w' w.heap.size (fun k_ => some k_ ≠ (v1_ : Value).ownBlock) v2_ r3 ∧ Below w.heap.size w w' := by
 have hu24 := Try.underlying24
 have hu31 := Try.underlying31
 have hu28 := Try.underlying28
 have HR0_0 := Aside0.mk hr0_0
 have HC0_0 := Aside0.mk hc0_0
 clear hr0_0 hc0_0
 have HB := Aside0.mk (Below.refl w.heap.size w)
 have H : ((version_Check.f k l0_0 a0_1 a0_2 a0_3).bind fun t129 => (if t129 = 0 then ((some (lvF l0_0 4)).bind fun t130 => ((some (scoreS l0_0 t130)).bind fun t131 => (if t131 = 0 then (some (0, ([] : List (S28)), ([] : List (S28)), 6)) else (if 0 ≤ t130 then (if t130 < (l0_0.length : Int) then ((slices_Clone_api_Meta.f (rd_L3 l0_0 t130)).bind fun t133 => (if t130 > 0 then ((if 0 < t133.length then some (t133.take 1) else none).bind fun t137 => (pick_Pick.j0 k t130 l0_0 a0_1 a0_2 a0_3 t130 t137)) else (pick_Pick.j0 k t130 l0_0 a0_1 a0_2 a0_3 t130 t133))) else (none)) else (none))))) else (some (0, ([] : List (S28)), ([] : List (S28)), t129)))) = some (r1, r2, r3, r4) := h
 clear h
 replace H := Option.bind_eq_some_iff.mp H
 obtain ⟨t129, A20, H⟩ := H
 replace H : (if t129 = 0 then ((some (lvF l0_0 4)).bind fun t130 => ((some (scoreS l0_0 t130)).bind fun t131 => (if t131 = 0 then (some (0, ([] : List (S28)), ([] : List (S28)), 6)) else (if 0 ≤ t130 then (if t130 < (l0_0.length : Int) then ((slices_Clone_api_Meta.f (rd_L3 l0_0 t130)).bind fun t133 => (if t130 > 0 then ((if 0 < t133.length then some (t133.take 1) else none).bind fun t137 => (pick_Pick.j0 k t130 l0_0 a0_1 a0_2 a0_3 t130 t137)) else (pick_Pick.j0 k t130 l0_0 a0_1 a0_2 a0_3 t130 t133))) else (none)) else (none))))) else (some (0, ([] : List (S28)), ([] : List (S28)), t129))) = some (r1, r2, r3, r4) := H
 have A2 := Aside0.mk A20
 clear A20
 by_cases c3 : t129 = 0
 ·
  rw [if_pos c3] at H
  have c3b0 : (t129 == 0) = true := beq_iff_eq.mpr c3
  have c3b1 : (t129 != 0) = false := bne_eq_false_iff_eq.mpr c3
  clear c3
  replace H := Option.bind_eq_some_iff.mp H
  obtain ⟨t130, A40, H⟩ := H
  replace H : ((some (scoreS l0_0 t130)).bind fun t131 => (if t131 = 0 then (some (0, ([] : List (S28)), ([] : List (S28)), 6)) else (if 0 ≤ t130 then (if t130 < (l0_0.length : Int) then ((slices_Clone_api_Meta.f (rd_L3 l0_0 t130)).bind fun t133 => (if t130 > 0 then ((if 0 < t133.length then some (t133.take 1) else none).bind fun t137 => (pick_Pick.j0 k t130 l0_0 a0_1 a0_2 a0_3 t130 t137)) else (pick_Pick.j0 k t130 l0_0 a0_1 a0_2 a0_3 t130 t133))) else (none)) else (none)))) = some (r1, r2, r3, r4) := H
  have A4 := Aside0.mk A40
  clear A40
  replace H := Option.bind_eq_some_iff.mp H
  obtain ⟨t131, A50, H⟩ := H
  replace H : (if t131 = 0 then (some (0, ([] : List (S28)), ([] : List (S28)), 6)) else (if 0 ≤ t130 then (if t130 < (l0_0.length : Int) then ((slices_Clone_api_Meta.f (rd_L3 l0_0 t130)).bind fun t133 => (if t130 > 0 then ((if 0 < t133.length then some (t133.take 1) else none).bind fun t137 => (pick_Pick.j0 k t130 l0_0 a0_1 a0_2 a0_3 t130 t137)) else (pick_Pick.j0 k t130 l0_0 a0_1 a0_2 a0_3 t130 t133))) else (none)) else (none))) = some (r1, r2, r3, r4) := H
  have A5 := Aside0.mk A50
  clear A50
  have E130 := Aside0.mk (Option.some.inj A4.out)
  have E131 := Aside0.mk (Option.some.inj A5.out)
  clear A4 A5
  have HCZ := Aside0.mk (check_zero (show version_Check.f k l0_0 a0_1 a0_2 a0_3 = some 0 by have e_ := A2.out; rw [eq_of_beq c3b0] at e_; exact e_))
  obtain ⟨s0, E0⟩ : ∃ s, scoreS l0_0 0 = s := ⟨_, rfl⟩
  obtain ⟨s1, E1⟩ : ∃ s, scoreS l0_0 1 = s := ⟨_, rfl⟩
  obtain ⟨s2, E2⟩ : ∃ s, scoreS l0_0 2 = s := ⟨_, rfl⟩
  have HSC := Aside0.mk (scores_calls2 A0_0 c0_0 l0_0 a0_1 a0_2 a0_3 s0 s1 s2 E0 E1 E2 HCZ.out.1 HCZ.out.2)
  have F0 := Aside0.mk E0
  have F1 := Aside0.mk E1
  have F2 := Aside0.mk E2
  clear E0 E1 E2
  have hu57 := Try.underlying57
  go_enter Try.func8, Try.ntmps8
  go_wp2_with (first | ((with_reducible refine gate_dst (N := 1) rfl ?_); refine box_event ?hg (N := 1) ?hd (cs := #[.slice A0_0 l0_0.length c0_0, .int .i64 a0_1, .int .i64 a0_2, .string a0_3]) (t := 24) ?hr ?_; (case hd => rfl); (case hg => rfl); (case hr => first | (go_simp; done) | (go_simp; rfl)); intro gb127 hg w20 hbox hb; have n0_ := Aside0.mk (below_step (by repeat (first | (with_reducible first | exact HB.out | apply below_alloc | apply pw_below_drewN | apply below_drew1) | exact HB.out)) hb); have n1_ := Aside0.mk (hbox); have n2_ := Aside0.mk ((by rw [hg]; exact (below_size (by repeat (first | (with_reducible first | exact HB.out | apply below_alloc | apply pw_below_drewN | apply below_drew1) | exact HB.out))) : w.heap.size ≤ gb127)); have n3_ := Aside0.mk ((by rw [hg]; exact (below_size (by repeat (first | (with_reducible first | exact HB.out | apply below_alloc | apply pw_below_drewN | apply below_drew1) | exact HB.out))) : w.heap.size ≤ gb127)); clear HB; have HB := n0_; have BK127 := n1_; have GW127 := n2_; have GE127 := n3_; clear n0_ n1_ n2_ n3_; clear hb hbox hg) | ((with_reducible refine gate_dst (N := 2) rfl ?_); refine box_event ?hg (N := 2) ?hd (cs := #[.int .i64 0, .slice none 0 0, .slice none 0 0]) (t := 31) ?hr ?_; (case hd => rfl); (case hg => rfl); (case hr => first | (go_simp; done) | (go_simp; rfl)); intro gb128 hg w21 hbox hb; have n0_ := Aside0.mk (blk_below (g := gb127) (o := .cells #[.slice A0_0 l0_0.length c0_0, .int .i64 a0_1, .int .i64 a0_2, .string a0_3] 24 (0, 0)) (by (with_reducible repeat (first | refine blk_drewN ?_ _ | refine blk_drew ?_ | refine blk_alloc ?_ _)); exact BK127.out) hb); have n1_ := Aside0.mk (below_step (by repeat (first | (with_reducible first | exact HB.out | apply below_alloc | apply pw_below_drewN | apply below_drew1 | refine below_set ?_ GE127.out) | exact HB.out)) hb); have n2_ := Aside0.mk (hbox); have n3_ := Aside0.mk ((by rw [hg]; exact (below_size (by repeat (first | (with_reducible first | exact HB.out | apply below_alloc | apply pw_below_drewN | apply below_drew1 | refine below_set ?_ GE127.out) | exact HB.out))) : w.heap.size ≤ gb128)); have n4_ := Aside0.mk ((by rw [hg]; exact (below_size (by repeat (first | (with_reducible first | exact HB.out | apply below_alloc | apply pw_below_drewN | apply below_drew1 | refine below_set ?_ GE127.out) | exact HB.out))) : w.heap.size ≤ gb128)); have n5_ := Aside0.mk ((by rw [hg]; exact Nat.ne_of_lt (blk_lt (g := gb127) (o := .cells #[.slice A0_0 l0_0.length c0_0, .int .i64 a0_1, .int .i64 a0_2, .string a0_3] 24 (0, 0)) (by (with_reducible repeat (first | refine blk_drewN ?_ _ | refine blk_drew ?_ | refine blk_alloc ?_ _)); exact BK127.out)) : gb127 ≠ gb128)); have n6_ := Aside0.mk ((by rw [hg]; exact Nat.ne_of_gt (blk_lt (g := gb127) (o := .cells #[.slice A0_0 l0_0.length c0_0, .int .i64 a0_1, .int .i64 a0_2, .string a0_3] 24 (0, 0)) (by (with_reducible repeat (first | refine blk_drewN ?_ _ | refine blk_drew ?_ | refine blk_alloc ?_ _)); exact BK127.out)) : gb128 ≠ gb127)); clear BK127; clear HB; have BK127 := n0_; have HB := n1_; have BK128 := n2_; have GW128 := n3_; have GE128 := n4_; have NB127_128 := n5_; have NB128_127 := n6_; clear n0_ n1_ n2_ n3_ n4_ n5_ n6_; clear hb hbox hg; have hnb22 := NB127_128.out; have hnc22 := NB128_127.out; have hcz23_0 : w21.cell? ⟨gb127, 0, none⟩ = some (.slice A0_0 l0_0.length c0_0) := (blk_cell BK127.out 0).trans rfl; have hcz23_1 : w21.cell? ⟨gb127, 1, none⟩ = some (.int .i64 a0_1) := (blk_cell BK127.out 1).trans rfl; have hcz23_2 : w21.cell? ⟨gb127, 2, none⟩ = some (.int .i64 a0_2) := (blk_cell BK127.out 2).trans rfl; have hcz23_3 : w21.cell? ⟨gb127, 3, none⟩ = some (.string a0_3) := (blk_cell BK127.out 3).trans rfl; have hfz23_0 := blk_frozen BK127.out 0; have hfz23_1 := blk_frozen BK127.out 1; have hfz23_2 := blk_frozen BK127.out 2; have hfz23_3 := blk_frozen BK127.out 3) | (go_at_call 22; (with_reducible refine (version_Check.calls k _ _ l0_0 a0_1 a0_2 a0_3 t129 _ ?side1 ?side2 A2.out).mono ?_); (case side1 => repeat (first | exact (Kd.C_below HR0_0.out HB.out) | (with_reducible refine Kd.C_alloc ?_ _) | (with_reducible refine Kd.C_drewN ?_ _) | (with_reducible refine Kd.C_drew ?_))); (case side2 => exact HC0_0.out); rintro e w24 ⟨rfl, hb⟩; have n0_ := Aside0.mk (blk_below (g := gb127) (o := .cells #[.slice A0_0 l0_0.length c0_0, .int .i64 a0_1, .int .i64 a0_2, .string a0_3] 24 (0, 0)) (by (with_reducible repeat (first | refine blk_drewN ?_ _ | refine blk_drew ?_ | refine blk_alloc ?_ _)); exact BK127.out) hb); have n1_ := Aside0.mk (blk_below (g := gb128) (o := .cells #[.int .i64 0, .slice none 0 0, .slice none 0 0] 31 (0, 0)) (by (with_reducible repeat (first | refine blk_drewN ?_ _ | refine blk_drew ?_ | refine blk_alloc ?_ _)); exact BK128.out) hb); have n2_ := Aside0.mk (below_step (by repeat (first | (with_reducible first | exact HB.out | apply below_alloc | apply pw_below_drewN | apply below_drew1 | refine below_set ?_ GE127.out | refine below_set ?_ GE128.out) | exact HB.out)) hb); clear BK127; clear BK128; clear HB; have BK127 := n0_; have BK128 := n1_; have HB := n2_; clear n0_ n1_ n2_; (try clear hb); (try clear hb2); (try clear hk); (try clear hi); have hcz25_0 : w24.cell? ⟨gb127, 0, none⟩ = some (.slice A0_0 l0_0.length c0_0) := (blk_cell BK127.out 0).trans rfl; have hcz25_1 : w24.cell? ⟨gb127, 1, none⟩ = some (.int .i64 a0_1) := (blk_cell BK127.out 1).trans rfl; have hcz25_2 : w24.cell? ⟨gb127, 2, none⟩ = some (.int .i64 a0_2) := (blk_cell BK127.out 2).trans rfl; have hcz25_3 : w24.cell? ⟨gb127, 3, none⟩ = some (.string a0_3) := (blk_cell BK127.out 3).trans rfl; have hfz25_0 := blk_frozen BK127.out 0; have hfz25_1 := blk_frozen BK127.out 1; have hfz25_2 := blk_frozen BK127.out 2; have hfz25_3 := blk_frozen BK127.out 3) | (go_at_call 23; (with_reducible refine (HSC.out _ ?side1).mono ?_); (case side1 => repeat (first | exact (Kd.C_below HR0_0.out HB.out) | (with_reducible refine Kd.C_alloc ?_ _) | (with_reducible refine Kd.C_drewN ?_ _) | (with_reducible refine Kd.C_drew ?_))); rintro e w9013 ⟨rfl, hb⟩; have n0_ := Aside0.mk (blk_below (g := gb127) (o := .cells #[.slice A0_0 l0_0.length c0_0, .int .i64 a0_1, .int .i64 a0_2, .string a0_3] 24 (0, 0)) (by (with_reducible repeat (first | refine blk_drewN ?_ _ | refine blk_drew ?_ | refine blk_alloc ?_ _)); exact BK127.out) hb); have n1_ := Aside0.mk (blk_below (g := gb128) (o := .cells #[.int .i64 0, .slice none 0 0, .slice none 0 0] 31 (0, 0)) (by (with_reducible repeat (first | refine blk_drewN ?_ _ | refine blk_drew ?_ | refine blk_alloc ?_ _)); exact BK128.out) hb); have n2_ := Aside0.mk (below_step (by repeat (first | (with_reducible first | exact HB.out | apply below_alloc | apply pw_below_drewN | apply below_drew1 | refine below_set ?_ GE127.out | refine below_set ?_ GE128.out) | exact HB.out)) hb); clear BK127; clear BK128; clear HB; have BK127 := n0_; have BK128 := n1_; have HB := n2_; clear n0_ n1_ n2_; (try clear hb); (try clear hb2); (try clear hk); (try clear hi)) | ((with_reducible refine gate_dst (N := 5) rfl ?_); refine box_event ?hg (N := 5) ?hd (cs := #[.int .i64 0, .int .i64 0, .int .i64 0, .int .i64 0]) (t := 57) ?hr ?_; (case hd => rfl); (case hg => rfl); (case hr => first | (go_simp; done) | (go_simp; rfl)); intro gb5 hg w9005 hbox hb; have n0_ := Aside0.mk (blk_below (g := gb127) (o := .cells #[.slice A0_0 l0_0.length c0_0, .int .i64 a0_1, .int .i64 a0_2, .string a0_3] 24 (0, 0)) (by (with_reducible repeat (first | refine blk_drewN ?_ _ | refine blk_drew ?_ | refine blk_alloc ?_ _)); exact BK127.out) hb); have n1_ := Aside0.mk (blk_below (g := gb128) (o := .cells #[.int .i64 0, .slice none 0 0, .slice none 0 0] 31 (0, 0)) (by (with_reducible repeat (first | refine blk_drewN ?_ _ | refine blk_drew ?_ | refine blk_alloc ?_ _)); exact BK128.out) hb); have n2_ := Aside0.mk (below_step (by repeat (first | (with_reducible first | exact HB.out | apply below_alloc | apply pw_below_drewN | apply below_drew1 | refine below_set ?_ GE127.out | refine below_set ?_ GE128.out) | exact HB.out)) hb); have n3_ := Aside0.mk hbox; have n4_ := Aside0.mk ((by rw [hg]; exact below_size (by repeat (first | (with_reducible first | exact HB.out | apply below_alloc | apply pw_below_drewN | apply below_drew1 | refine below_set ?_ GE127.out | refine below_set ?_ GE128.out) | exact HB.out)) : w.heap.size ≤ gb5)); have n5_ := Aside0.mk ((by rw [hg]; exact Nat.ne_of_lt (blk_lt (g := gb127) (o := .cells #[.slice A0_0 l0_0.length c0_0, .int .i64 a0_1, .int .i64 a0_2, .string a0_3] 24 (0, 0)) (by (with_reducible repeat (first | refine blk_drewN ?_ _ | refine blk_drew ?_ | refine blk_alloc ?_ _)); exact BK127.out)) : gb127 ≠ gb5)); have n6_ := Aside0.mk ((by rw [hg]; exact Nat.ne_of_lt (blk_lt (g := gb128) (o := .cells #[.int .i64 0, .slice none 0 0, .slice none 0 0] 31 (0, 0)) (by (with_reducible repeat (first | refine blk_drewN ?_ _ | refine blk_drew ?_ | refine blk_alloc ?_ _)); exact BK128.out)) : gb128 ≠ gb5)); clear BK127; clear BK128; clear HB; have BK127 := n0_; have BK128 := n1_; have HB := n2_; have BK5 := n3_; have GE5 := n4_; have NB127_5 := n5_; have NB128_5 := n6_; clear n0_ n1_ n2_ n3_ n4_ n5_ n6_; clear hb hbox hg; have hcy_0 : w9005.cell? ⟨gb5, 0, none⟩ = some (.int .i64 0) := (blk_cell BK5.out 0).trans rfl; have hcy_1 : w9005.cell? ⟨gb5, 1, none⟩ = some (.int .i64 0) := (blk_cell BK5.out 1).trans rfl; have hcy_2 : w9005.cell? ⟨gb5, 2, none⟩ = some (.int .i64 0) := (blk_cell BK5.out 2).trans rfl; have hcy_3 : w9005.cell? ⟨gb5, 3, none⟩ = some (.int .i64 0) := (blk_cell BK5.out 3).trans rfl; have hfy_0 := blk_frozen BK5.out 0; have hfy_1 := blk_frozen BK5.out 1; have hfy_2 := blk_frozen BK5.out 2; have hfy_3 := blk_frozen BK5.out 3))
  go_loopw [6, 23] (fun v6 v23 w' => ∃ (x lv : Int), v23 = .int .i64 x ∧ v6 = .int .i64 lv ∧ 0 ≤ x ∧ x ≤ 4 ∧ Aside0 (lv = lvF l0_0 x.toNat) ∧ Aside0 (PSt w gb127 gb128 gb5 #[.slice A0_0 l0_0.length c0_0, .int .i64 a0_1, .int .i64 a0_2, .string a0_3] #[.int .i64 s0, .int .i64 s1, .int .i64 s2, .int .i64 0] w')) (fun v6 v23 w' => 4 - (match v23 with | .int _ j => j.toNat | _ => 0))
  case atStart =>
    refine ⟨0, 0, rfl, rfl, by omega, by omega, ⟨rfl⟩, ⟨⟨blk_far (blk_far (blk_far (blk_far BK127.out NB127_5.out _) NB127_5.out _) NB127_5.out _) NB127_5.out _, blk_far (blk_far (blk_far (blk_far BK128.out NB128_5.out _) NB128_5.out _) NB128_5.out _) NB128_5.out _, blk_put (i := 3) (blk_put (i := 2) (blk_put (i := 1) (blk_put (i := 0) BK5.out (.int .i64 s0) rfl) (.int .i64 s1) rfl) (.int .i64 s2) rfl) (.int .i64 0) rfl, below_set (g := gb5) (j := 3) (below_set (g := gb5) (j := 2) (below_set (g := gb5) (j := 1) (below_set (g := gb5) (j := 0) HB.out GE5.out (v := .int .i64 s0)) GE5.out (v := .int .i64 s1)) GE5.out (v := .int .i64 s2)) GE5.out (v := .int .i64 0)⟩⟩⟩
  case round =>
    clear BK127 BK128 BK5 HB
    obtain ⟨x, lv, rfl, rfl, hx0, hx4, HL, HP⟩ := hrel
    have HLR := Aside0.mk (lvF_range l0_0 x.toNat)
    have hlv0 : 0 ≤ lv := by rw [HL.out]; exact HLR.out.1
    have hlv4 : lv < 4 := by
      have h_ := HLR.out.2
      rw [← HL.out] at h_
      split at h_ <;> omega
    have hcl := score_cell l0_0 s0 s1 s2 lv F0.out F1.out F2.out hlv0 hlv4 HP.out.bo
    by_cases hx : x < 4
    ·
      have hix := score_index2 l0_0 s0 s1 s2 x F0.out F1.out F2.out hx0 hx
      obtain ⟨sl, HSL⟩ : ∃ s, Aside0 (scoreS l0_0 lv = s) := ⟨_, ⟨rfl⟩⟩
      obtain ⟨sx, HSX⟩ : ∃ s, Aside0 (scoreS l0_0 x = s) := ⟨_, ⟨rfl⟩⟩
      rw [HSL.out] at hcl
      rw [HSX.out] at hix
      have HN := Aside0.mk (show lvF l0_0 (x + 1).toNat = if sl < sx then x else lv by
        rw [show (x + 1).toNat = x.toNat + 1 by omega]
        show (if scoreS l0_0 (lvF l0_0 x.toNat) < scoreS l0_0 (x.toNat : Int) then (x.toNat : Int) else lvF l0_0 x.toNat) = _
        rw [← HL.out, show ((x.toNat : Nat) : Int) = x by omega, HSL.out, HSX.out])
      by_cases hg : sl < sx
      ·
        have hgb : decide (sl < sx) = true := decide_eq_true hg
        go_wp2_with fail
        refine ⟨⟨x + 1, x, rfl, rfl, by omega, by omega, ⟨by rw [HN.out, if_pos hg]⟩, HP⟩, ?_⟩
        simp only []
        omega
      ·
        have hgb : decide (sl < sx) = false := decide_eq_false hg
        go_wp2_with fail
        refine ⟨⟨x + 1, lv, rfl, rfl, by omega, by omega, ⟨by rw [HN.out, if_neg hg]⟩, HP⟩, ?_⟩
        simp only []
        omega
    obtain rfl : x = 4 := by omega
    obtain rfl : t130 = lv := by rw [HL.out]; exact E130.out.symm
    clear hx HLR
    rw [E131.out] at hcl
    have BK127 := Aside0.mk HP.out.bv
    have BK128 := Aside0.mk HP.out.br
    have HB := Aside0.mk HP.out.bel
    have hcz28_0 : wr.cell? ⟨gb127, 0, none⟩ = some (.slice A0_0 l0_0.length c0_0) := (blk_cell BK127.out 0).trans rfl
    have hcz28_1 : wr.cell? ⟨gb127, 1, none⟩ = some (.int .i64 a0_1) := (blk_cell BK127.out 1).trans rfl
    have hcz28_2 : wr.cell? ⟨gb127, 2, none⟩ = some (.int .i64 a0_2) := (blk_cell BK127.out 2).trans rfl
    have hcz28_3 : wr.cell? ⟨gb127, 3, none⟩ = some (.string a0_3) := (blk_cell BK127.out 3).trans rfl
    have hfz28_0 := blk_frozen BK127.out 0
    have hcz15_0 : wr.cell? ⟨gb128, 0, none⟩ = some (.int .i64 0) := (blk_cell BK128.out 0).trans rfl
    have hcz15_1 : wr.cell? ⟨gb128, 1, none⟩ = some (.slice none 0 0) := (blk_cell BK128.out 1).trans rfl
    have hcz15_2 : wr.cell? ⟨gb128, 2, none⟩ = some (.slice none 0 0) := (blk_cell BK128.out 2).trans rfl
    have hfz15_0 := blk_frozen BK128.out 0
    have hfz15_1 := blk_frozen BK128.out 1
    have hfz15_2 := blk_frozen BK128.out 2
    by_cases c6 : t131 = 0
    ·
     rw [if_pos c6] at H
     have c6b0 : (t131 == 0) = true := beq_iff_eq.mpr c6
     have c6b1 : (t131 != 0) = false := bne_eq_false_iff_eq.mpr c6
     clear c6
     simp only [Option.some.injEq, Prod.mk.injEq] at H
     obtain ⟨rfl, rfl, rfl, rfl⟩ := H
     go_wp2_with fail
     refine bodyPost_ret (results_ct rfl _ _ gb128 31 #[.int .i64 0, .slice none 0 0, .slice none 0 0] (0, 0) _ rfl (by (with_reducible repeat (first | refine blk_drewN ?_ _ | refine blk_drew ?_ | refine blk_alloc ?_ _)); refine blk_put (cs := #[.int .i64 0, .slice none 0 0, .slice none 0 0]) ?_ 2 _ rfl; (with_reducible repeat (first | refine blk_drewN ?_ _ | refine blk_drew ?_ | refine blk_alloc ?_ _)); refine blk_put (cs := #[.int .i64 0, .slice none 0 0, .slice none 0 0]) ?_ 1 _ rfl; (with_reducible repeat (first | refine blk_drewN ?_ _ | refine blk_drew ?_ | refine blk_alloc ?_ _)); refine blk_put (cs := #[.int .i64 0, .slice none 0 0, .slice none 0 0]) ?_ 0 _ rfl; (with_reducible repeat (first | refine blk_drewN ?_ _ | refine blk_drew ?_ | refine blk_alloc ?_ _)); exact BK128.out) Try.underlying31 rfl (by kernel_rfl)) rfl ?_
     exact ⟨_, _, by first | rfl | (simp [errW_none, errW_some] <;> rfl) | (simp [*, errW_none, errW_some] <;> rfl) | exact ret_ie _ | (simp [*, errW_none, errW_some, bne]; done), by first | exact Kc.R_nil _ _ _ _ _ | exact Kd.N_nil _ _ _ _ _ | exact Kd.V_nil _ _ _ _ _ | exact Kd.Q_nil _ _ _ _ _ | exact Kd.S_nil _ _ _ _ _, by first | exact Kc.R_nil _ _ _ _ _ | exact Kd.N_nil _ _ _ _ _ | exact Kd.V_nil _ _ _ _ _ | exact Kd.Q_nil _ _ _ _ _ | exact Kd.S_nil _ _ _ _ _, by repeat (first | (with_reducible first | exact HB.out | apply below_alloc | apply pw_below_drewN | apply below_drew1 | refine below_set ?_ GE127.out | refine below_set ?_ GE128.out) | exact HB.out)⟩
    ·
     rw [if_neg c6] at H
     have c6b0 : (t131 == 0) = false := beq_eq_false_iff_ne.mpr c6
     have c6b1 : (t131 != 0) = true := bne_iff_ne.mpr c6
     by_cases c16 : 0 ≤ t130
     ·
      rw [if_pos c16] at H
      have c16b0 : decide (0 ≤ t130) = true := decide_eq_true c16
      clear c16
      by_cases c17 : t130 < (l0_0.length : Int)
      ·
       rw [if_pos c17] at H
       have c17b0 : decide (t130 < (l0_0.length : Int)) = true := decide_eq_true c17
       clear c17
       replace H := Option.bind_eq_some_iff.mp H
       obtain ⟨t133, A180, H⟩ := H
       replace H : (if t130 > 0 then ((if 0 < t133.length then some (t133.take 1) else none).bind fun t137 => (pick_Pick.j0 k t130 l0_0 a0_1 a0_2 a0_3 t130 t137)) else (pick_Pick.j0 k t130 l0_0 a0_1 a0_2 a0_3 t130 t133)) = some (r1, r2, r3, r4) := H
       have A18 := Aside0.mk A180
       clear A180
       have HC19 := Aside0.mk H
       clear H
       have p132 : 0 ≤ (t130 : Int) := of_decide_eq_true (by first | (with_reducible assumption) | assumption)
       have q132 : t130 < (l0_0.length : Int) := of_decide_eq_true (by first | (with_reducible assumption) | assumption)
       obtain ⟨ad132, A132_0, c132_0, e132, hx132_0, hl132_0, hi132_0⟩ := at_L3 HR0_0.out t130 p132 q132
       cases e132
       replace hx132_0 := cl_ HB.out hx132_0
       have HR132_0 := Aside0.mk hi132_0
       have HC132_0 := Aside0.mk hl132_0
       clear hi132_0 hl132_0
       replace p132 := eq_true p132
       replace q132 := eq_true q132
       go_upto_if 48 with (first | (go_at_call 24; (with_reducible refine (slices_Clone_api_Meta.calls _ _ (rd_L3 l0_0 t130) t133 _ ?side1 ?side2 A18.out).mono ?_); (case side1 => repeat (first | exact (Kd.C_below HR132_0.out HB.out) | (with_reducible refine Kd.C_alloc ?_ _) | (with_reducible refine Kd.C_drewN ?_ _) | (with_reducible refine Kd.C_drew ?_))); (case side2 => exact HC132_0.out); rintro e w29 ⟨v134, rfl, ho0, hb⟩; replace ho0 := Kc.R_of ho0; have n0_ := Aside0.mk (Kc.R_lower ho0 (below_size (by repeat (first | (with_reducible first | exact HB.out | apply below_alloc | apply pw_below_drewN | apply below_drew1 | refine below_set ?_ GE127.out | refine below_set ?_ GE128.out) | exact HB.out)))); have n1_ := Aside0.mk (blk_below (g := gb127) (o := .cells #[.slice (some ad132) l0_0.length c0_0, .int .i64 a0_1, .int .i64 a0_2, .string a0_3] 24 (0, 0)) (by (with_reducible repeat (first | refine blk_drewN ?_ _ | refine blk_drew ?_ | refine blk_alloc ?_ _)); exact BK127.out) hb); have n2_ := Aside0.mk (blk_below (g := gb128) (o := .cells #[.int .i64 0, .slice none 0 0, .slice none 0 0] 31 (0, 0)) (by (with_reducible repeat (first | refine blk_drewN ?_ _ | refine blk_drew ?_ | refine blk_alloc ?_ _)); exact BK128.out) hb); have n3_ := Aside0.mk (below_step (by repeat (first | (with_reducible first | exact HB.out | apply below_alloc | apply pw_below_drewN | apply below_drew1 | refine below_set ?_ GE127.out | refine below_set ?_ GE128.out) | exact HB.out)) hb); clear BK127; clear BK128; clear HB; have HO135 := n0_; have BK127 := n1_; have BK128 := n2_; have HB := n3_; clear n0_ n1_ n2_ n3_; (try clear hb); (try clear hb2); (try clear hk); (try clear hi); (try clear ho0); obtain ⟨Ao30, co30, eo30⟩ := Kc.R_slice HO135.out; subst eo30) | ((with_reducible refine gate_dst (N := 9) rfl ?_); refine box_event ?hg (N := 9) ?hd (cs := #[.int .i64 0, .slice none 0 0, .slice none 0 0]) (t := 31) ?hr ?_; (case hd => rfl); (case hg => rfl); (case hr => first | (go_simp; done) | (go_simp; rfl)); intro gb136 hg w31 hbox hb; have n0_ := Aside0.mk (Kc.R_below (by (with_reducible repeat (first | apply Kc.R_alloc | apply Kc.R_drewN | apply Kc.R_drew)); exact HO135.out) hb); have n1_ := Aside0.mk (blk_below (g := gb127) (o := .cells #[.slice (some ad132) l0_0.length c0_0, .int .i64 a0_1, .int .i64 a0_2, .string a0_3] 24 (0, 0)) (by (with_reducible repeat (first | refine blk_drewN ?_ _ | refine blk_drew ?_ | refine blk_alloc ?_ _)); exact BK127.out) hb); have n2_ := Aside0.mk (blk_below (g := gb128) (o := .cells #[.int .i64 0, .slice none 0 0, .slice none 0 0] 31 (0, 0)) (by (with_reducible repeat (first | refine blk_drewN ?_ _ | refine blk_drew ?_ | refine blk_alloc ?_ _)); exact BK128.out) hb); have n3_ := Aside0.mk (below_step (by repeat (first | (with_reducible first | exact HB.out | apply below_alloc | apply pw_below_drewN | apply below_drew1 | refine below_set ?_ GE127.out | refine below_set ?_ GE128.out) | exact HB.out)) hb); have n4_ := Aside0.mk (hbox); have n5_ := Aside0.mk ((by rw [hg]; exact (below_size (by repeat (first | (with_reducible first | exact HB.out | apply below_alloc | apply pw_below_drewN | apply below_drew1 | refine below_set ?_ GE127.out | refine below_set ?_ GE128.out) | exact HB.out))) : w.heap.size ≤ gb136)); have n6_ := Aside0.mk ((by rw [hg]; exact (below_size (by repeat (first | (with_reducible first | exact HB.out | apply below_alloc | apply pw_below_drewN | apply below_drew1 | refine below_set ?_ GE127.out | refine below_set ?_ GE128.out) | exact HB.out))) : w.heap.size ≤ gb136)); have n7_ := Aside0.mk ((by rw [hg]; exact Nat.ne_of_lt (blk_lt (g := gb127) (o := .cells #[.slice (some ad132) l0_0.length c0_0, .int .i64 a0_1, .int .i64 a0_2, .string a0_3] 24 (0, 0)) (by (with_reducible repeat (first | refine blk_drewN ?_ _ | refine blk_drew ?_ | refine blk_alloc ?_ _)); exact BK127.out)) : gb127 ≠ gb136)); have n8_ := Aside0.mk ((by rw [hg]; exact Nat.ne_of_gt (blk_lt (g := gb127) (o := .cells #[.slice (some ad132) l0_0.length c0_0, .int .i64 a0_1, .int .i64 a0_2, .string a0_3] 24 (0, 0)) (by (with_reducible repeat (first | refine blk_drewN ?_ _ | refine blk_drew ?_ | refine blk_alloc ?_ _)); exact BK127.out)) : gb136 ≠ gb127)); have n9_ := Aside0.mk ((by rw [hg]; exact Nat.ne_of_lt (blk_lt (g := gb128) (o := .cells #[.int .i64 0, .slice none 0 0, .slice none 0 0] 31 (0, 0)) (by (with_reducible repeat (first | refine blk_drewN ?_ _ | refine blk_drew ?_ | refine blk_alloc ?_ _)); exact BK128.out)) : gb128 ≠ gb136)); have n10_ := Aside0.mk ((by rw [hg]; exact Nat.ne_of_gt (blk_lt (g := gb128) (o := .cells #[.int .i64 0, .slice none 0 0, .slice none 0 0] 31 (0, 0)) (by (with_reducible repeat (first | refine blk_drewN ?_ _ | refine blk_drew ?_ | refine blk_alloc ?_ _)); exact BK128.out)) : gb136 ≠ gb128)); clear HO135; clear BK127; clear BK128; clear HB; have HO135 := n0_; have BK127 := n1_; have BK128 := n2_; have HB := n3_; have BK136 := n4_; have GW136 := n5_; have GE136 := n6_; have NB127_136 := n7_; have NB136_127 := n8_; have NB128_136 := n9_; have NB136_128 := n10_; clear n0_ n1_ n2_ n3_ n4_ n5_ n6_ n7_ n8_ n9_ n10_; clear hb hbox hg; have hnb32 := NB136_127.out; have hnc32 := NB127_136.out; have hnb33 := NB136_128.out; have hnc33 := NB128_136.out; have hcz34_0 : w31.cell? ⟨gb136, 0, none⟩ = some (.int .i64 0) := (blk_cell BK136.out 0).trans rfl; have hcz34_1 : w31.cell? ⟨gb136, 1, none⟩ = some (.slice none 0 0) := (blk_cell BK136.out 1).trans rfl; have hcz34_2 : w31.cell? ⟨gb136, 2, none⟩ = some (.slice none 0 0) := (blk_cell BK136.out 2).trans rfl; have hfz34_0 := blk_frozen BK136.out 0; have hfz34_1 := blk_frozen BK136.out 1; have hfz34_2 := blk_frozen BK136.out 2))
       (try simp only [Act.put, sa_, s0_, s1_])
       go_cut [] (fun wc => ∃ (kq : Nat) (x137001_18 : List (S28)) (u137001 : Value), Aside0 (pick_Pick.j0 kq t130 l0_0 a0_1 a0_2 a0_3 t130 x137001_18 = some (r1, r2, r3, r4)) ∧ Aside0 (kq ≤ k) ∧ Aside0 (Kc.R k28 28 wc w.heap.size (fun _ => True) u137001 x137001_18) ∧ Aside0 (wc.heap[gb127]? = some (.cells #[(.slice (some ad132) l0_0.length c0_0), .int .i64 a0_1, .int .i64 a0_2, .string a0_3] 24 (0, 0))) ∧ Aside0 (wc.heap[gb128]? = some (.cells #[.int .i64 0, (.slice none 0 0), (.slice none 0 0)] 31 (0, 0))) ∧ Aside0 (wc.heap[gb136]? = some (.cells #[.int .i64 t130, u137001, (.slice none 0 0)] 31 (0, 0))) ∧ Aside0 (Below w.heap.size w wc))
       case first =>
        have H := HC19.out
        clear HC19
        by_cases c35 : t130 > 0
        ·
         rw [if_pos c35] at H
         have c35b0 : decide (0 < t130) = true := decide_eq_true c35
         clear c35
         (first | rw [c35b0] | (simp only [i64_w, i32_w]; rw [c35b0]) | skip)
         replace H := Option.bind_eq_some_iff.mp H
         obtain ⟨t137, A360, H⟩ := H
         replace H : (pick_Pick.j0 k t130 l0_0 a0_1 a0_2 a0_3 t130 t137) = some (r1, r2, r3, r4) := H
         by_cases hp36 : 0 < t133.length
         rotate_left
         ·
          rw [if_neg hp36] at A360; cases A360
         rw [if_pos hp36] at A360
         obtain rfl := Option.some.inj A360
         have hlen1 : 1 ≤ t133.length := hp36
         have hlc1 := (Kc.R_reads' HO135.out).2.1
         have hco1 : 1 ≤ co30 := by omega
         obtain ⟨g30, c30, e30, _⟩ := Kc.R_form HO135.out hp36
         injection e30 with e30 en30 ec30
         subst e30
         subst ec30
         clear en30
         have H' := Aside0.mk H
         clear H
         have hnb37 := NB136_127.out
         have hnc37 := NB127_136.out
         have hnb38 := NB136_128.out
         have hnc38 := NB128_136.out
         have hcz39_0 : w31.cell? ⟨gb136, 0, none⟩ = some (.int .i64 0) := (blk_cell BK136.out 0).trans rfl
         have hcz39_1 : w31.cell? ⟨gb136, 1, none⟩ = some (.slice none 0 0) := (blk_cell BK136.out 1).trans rfl
         have hcz39_2 : w31.cell? ⟨gb136, 2, none⟩ = some (.slice none 0 0) := (blk_cell BK136.out 2).trans rfl
         have hfz39_0 := blk_frozen BK136.out 0
         have hfz39_1 := blk_frozen BK136.out 1
         have hfz39_2 := blk_frozen BK136.out 2
         go_wp2_with fail
         go_meet
         case rel => exact ⟨_, (t133.take 1), (.slice (some ⟨g30, 0, none⟩) 1 1), H', ⟨by first | omega | exact Nat.le_refl _⟩, ⟨by (with_reducible repeat (first | apply Kc.R_alloc | apply Kc.R_drewN | apply Kc.R_drew)); exact Kc.R_mono (Kc.R_far (p := ⟨gb136, 1, none⟩) (Kc.R_far (p := ⟨gb136, 2, none⟩) (Kc.R_far (p := ⟨gb136, 1, none⟩) (Kc.R_far (p := ⟨gb136, 0, none⟩) (Kc.R_types (Kc.R_cut HO135.out 1 1 hlen1 (Nat.le_refl _)) BK136.out (by decide)) (fun _ hk => hk.2) (.int .i64 t130)) (fun _ hk => hk.2) (.slice (some ⟨g30, 0, none⟩) t133.length co30)) (fun _ hk => hk.2) (.slice none 0 0)) (fun _ hk => hk.2) (.slice (some ⟨g30, 0, none⟩) 1 1)) (fun _ hk => trivial)⟩, ⟨by (with_reducible repeat (first | refine blk_drewN ?_ _ | refine blk_drew ?_ | refine blk_alloc ?_ _)); refine blk_far ?_ NB127_136.out _; (with_reducible repeat (first | refine blk_drewN ?_ _ | refine blk_drew ?_ | refine blk_alloc ?_ _)); refine blk_far ?_ NB127_136.out _; (with_reducible repeat (first | refine blk_drewN ?_ _ | refine blk_drew ?_ | refine blk_alloc ?_ _)); refine blk_far ?_ NB127_136.out _; (with_reducible repeat (first | refine blk_drewN ?_ _ | refine blk_drew ?_ | refine blk_alloc ?_ _)); refine blk_far ?_ NB127_136.out _; (with_reducible repeat (first | refine blk_drewN ?_ _ | refine blk_drew ?_ | refine blk_alloc ?_ _)); exact BK127.out⟩, ⟨by (with_reducible repeat (first | refine blk_drewN ?_ _ | refine blk_drew ?_ | refine blk_alloc ?_ _)); refine blk_far ?_ NB128_136.out _; (with_reducible repeat (first | refine blk_drewN ?_ _ | refine blk_drew ?_ | refine blk_alloc ?_ _)); refine blk_far ?_ NB128_136.out _; (with_reducible repeat (first | refine blk_drewN ?_ _ | refine blk_drew ?_ | refine blk_alloc ?_ _)); refine blk_far ?_ NB128_136.out _; (with_reducible repeat (first | refine blk_drewN ?_ _ | refine blk_drew ?_ | refine blk_alloc ?_ _)); refine blk_far ?_ NB128_136.out _; (with_reducible repeat (first | refine blk_drewN ?_ _ | refine blk_drew ?_ | refine blk_alloc ?_ _)); exact BK128.out⟩, ⟨by (with_reducible repeat (first | refine blk_drewN ?_ _ | refine blk_drew ?_ | refine blk_alloc ?_ _)); refine blk_put (cs := #[.int .i64 t130, .slice (some ⟨g30, 0, none⟩) t133.length co30, .slice none 0 0]) ?_ 1 _ rfl; (with_reducible repeat (first | refine blk_drewN ?_ _ | refine blk_drew ?_ | refine blk_alloc ?_ _)); refine blk_put (cs := #[.int .i64 t130, .slice (some ⟨g30, 0, none⟩) t133.length co30, .slice none 0 0]) ?_ 2 _ rfl; (with_reducible repeat (first | refine blk_drewN ?_ _ | refine blk_drew ?_ | refine blk_alloc ?_ _)); refine blk_put (cs := #[.int .i64 t130, .slice none 0 0, .slice none 0 0]) ?_ 1 _ rfl; (with_reducible repeat (first | refine blk_drewN ?_ _ | refine blk_drew ?_ | refine blk_alloc ?_ _)); refine blk_put (cs := #[.int .i64 0, .slice none 0 0, .slice none 0 0]) ?_ 0 _ rfl; (with_reducible repeat (first | refine blk_drewN ?_ _ | refine blk_drew ?_ | refine blk_alloc ?_ _)); exact BK136.out⟩, ⟨by repeat (first | (with_reducible first | exact HB.out | apply below_alloc | apply pw_below_drewN | apply below_drew1 | refine below_set ?_ GE127.out | refine below_set ?_ GE128.out | refine below_set ?_ GE136.out) | exact HB.out)⟩⟩
        ·
         rw [if_neg c35] at H
         have c35b0 : decide (0 < t130) = false := decide_eq_false c35
         clear c35
         (first | rw [c35b0] | (simp only [i64_w, i32_w]; rw [c35b0]) | skip)
         have H' := Aside0.mk H
         clear H
         go_wp2
         repeat (go_quiet (fail); try go_wp2)
         go_meet
         case rel => exact ⟨_, (t133), (.slice Ao30 t133.length co30), H', ⟨by first | omega | exact Nat.le_refl _⟩, ⟨by (with_reducible repeat (first | apply Kc.R_alloc | apply Kc.R_drewN | apply Kc.R_drew)); exact Kc.R_mono (Kc.R_far (p := ⟨gb136, 2, none⟩) (Kc.R_far (p := ⟨gb136, 1, none⟩) (Kc.R_far (p := ⟨gb136, 0, none⟩) (Kc.R_types HO135.out BK136.out (by decide)) (fun _ hk => hk.2) (.int .i64 t130)) (fun _ hk => hk.2) (.slice Ao30 t133.length co30)) (fun _ hk => hk.2) (.slice none 0 0)) (fun _ hk => trivial)⟩, ⟨by (with_reducible repeat (first | refine blk_drewN ?_ _ | refine blk_drew ?_ | refine blk_alloc ?_ _)); refine blk_far ?_ NB127_136.out _; (with_reducible repeat (first | refine blk_drewN ?_ _ | refine blk_drew ?_ | refine blk_alloc ?_ _)); refine blk_far ?_ NB127_136.out _; (with_reducible repeat (first | refine blk_drewN ?_ _ | refine blk_drew ?_ | refine blk_alloc ?_ _)); refine blk_far ?_ NB127_136.out _; (with_reducible repeat (first | refine blk_drewN ?_ _ | refine blk_drew ?_ | refine blk_alloc ?_ _)); exact BK127.out⟩, ⟨by (with_reducible repeat (first | refine blk_drewN ?_ _ | refine blk_drew ?_ | refine blk_alloc ?_ _)); refine blk_far ?_ NB128_136.out _; (with_reducible repeat (first | refine blk_drewN ?_ _ | refine blk_drew ?_ | refine blk_alloc ?_ _)); refine blk_far ?_ NB128_136.out _; (with_reducible repeat (first | refine blk_drewN ?_ _ | refine blk_drew ?_ | refine blk_alloc ?_ _)); refine blk_far ?_ NB128_136.out _; (with_reducible repeat (first | refine blk_drewN ?_ _ | refine blk_drew ?_ | refine blk_alloc ?_ _)); exact BK128.out⟩, ⟨by (with_reducible repeat (first | refine blk_drewN ?_ _ | refine blk_drew ?_ | refine blk_alloc ?_ _)); refine blk_put (cs := #[.int .i64 t130, .slice Ao30 t133.length co30, .slice none 0 0]) ?_ 2 _ rfl; (with_reducible repeat (first | refine blk_drewN ?_ _ | refine blk_drew ?_ | refine blk_alloc ?_ _)); refine blk_put (cs := #[.int .i64 t130, .slice none 0 0, .slice none 0 0]) ?_ 1 _ rfl; (with_reducible repeat (first | refine blk_drewN ?_ _ | refine blk_drew ?_ | refine blk_alloc ?_ _)); refine blk_put (cs := #[.int .i64 0, .slice none 0 0, .slice none 0 0]) ?_ 0 _ rfl; (with_reducible repeat (first | refine blk_drewN ?_ _ | refine blk_drew ?_ | refine blk_alloc ?_ _)); exact BK136.out⟩, ⟨by repeat (first | (with_reducible first | exact HB.out | apply below_alloc | apply pw_below_drewN | apply below_drew1 | refine below_set ?_ GE127.out | refine below_set ?_ GE128.out | refine below_set ?_ GE136.out) | exact HB.out)⟩⟩
       case rest =>
        clear hlv0 hlv4 hcl
        clear HC19
        try clear c1
        try clear p1
        try clear q1
        try clear hx1
        try clear c2
        try clear p2
        try clear c3
        try clear c3b0
        try clear c3b1
        try clear c6
        try clear c6b0
        try clear c6b1
        try clear c8
        try clear c9
        try clear c13
        try clear p13
        try clear q13
        try clear hx13
        try clear c16
        try clear c16b0
        try clear c17
        try clear c17b0
        try clear c22
        try clear c32
        try clear c33
        try clear c35
        try clear c35b0
        try clear c37
        try clear c38
        try clear hcz10_0
        try clear hcz10_1
        try clear hcz10_2
        try clear hcz10_3
        try clear hcz12_0
        try clear hcz12_1
        try clear hcz12_2
        try clear hcz12_3
        try clear hcz15_0
        try clear hcz15_1
        try clear hcz15_2
        try clear hcz23_0
        try clear hcz23_1
        try clear hcz23_2
        try clear hcz23_3
        try clear hcz25_0
        try clear hcz25_1
        try clear hcz25_2
        try clear hcz25_3
        try clear hcz28_0
        try clear hcz28_1
        try clear hcz28_2
        try clear hcz28_3
        try clear hcz34_0
        try clear hcz34_1
        try clear hcz34_2
        try clear hcz39_0
        try clear hcz39_1
        try clear hcz39_2
        try clear hcz42_0
        try clear hcz42_1
        try clear hcz42_2
        try clear hfz10_0
        try clear hfz10_1
        try clear hfz10_2
        try clear hfz10_3
        try clear hfz12_0
        try clear hfz12_1
        try clear hfz12_2
        try clear hfz12_3
        try clear hfz15_0
        try clear hfz15_1
        try clear hfz15_2
        try clear hfz23_0
        try clear hfz23_1
        try clear hfz23_2
        try clear hfz23_3
        try clear hfz25_0
        try clear hfz25_1
        try clear hfz25_2
        try clear hfz25_3
        try clear hfz28_0
        try clear hfz28_1
        try clear hfz28_2
        try clear hfz28_3
        try clear hfz34_0
        try clear hfz34_1
        try clear hfz34_2
        try clear hfz39_0
        try clear hfz39_1
        try clear hfz39_2
        try clear hfz42_0
        try clear hfz42_1
        try clear hfz42_2
        try clear hx132_0
        try clear p132
        try clear q132
        obtain ⟨kq, x137001_18, u137001, HA, HJ18, HO_137001, BK127, BK128, BK136, HB⟩ := hcut
        cases kq with
        | zero => exact absurd HA.out (by simp [pick_Pick.j0])
        | succ kj18 =>
         have H := HA.out
         clear HA
         simp only [pick_Pick.j0] at H
         by_cases c43 : 0 < (x137001_18.length : Int)
         ·
          rw [if_pos c43] at H
          have c43b0 : decide (0 < (x137001_18.length : Int)) = true := decide_eq_true c43
          have c43b1 : decide (0 < x137001_18.length) = true := decide_eq_true (by omega)
          clear c43
          have H' := Aside0.mk H
          clear H
          have hnb44 := NB136_127.out
          have hnc44 := NB127_136.out
          have hnb45 := NB136_128.out
          have hnc45 := NB128_136.out
          have hcz46_0 : wc.cell? ⟨gb136, 0, none⟩ = some (.int .i64 t130) := (blk_cell BK136.out 0).trans rfl
          have hcz46_1 : wc.cell? ⟨gb136, 1, none⟩ = some (u137001) := (blk_cell BK136.out 1).trans rfl
          have hcz46_2 : wc.cell? ⟨gb136, 2, none⟩ = some (.slice none 0 0) := (blk_cell BK136.out 2).trans rfl
          have hfz46_0 := blk_frozen BK136.out 0
          have hfz46_1 := blk_frozen BK136.out 1
          have hfz46_2 := blk_frozen BK136.out 2
          obtain ⟨Ao47, co47, eo47⟩ := Kc.R_slice HO_137001.out
          subst eo47
          have p140 : 0 ≤ (0 : Int) := (by omega)
          have q140 : 0 < (x137001_18.length : Int) := of_decide_eq_true (by first | (with_reducible assumption) | assumption)
          obtain ⟨ad140, e140, hx140_0, hx140_1, hx140_2, hx140_3, hx140_4⟩ := at_T28 (Kc.R_reads' HO_137001.out).2.2 0 p140 q140
          cases e140
          have qi140 : (0 < x137001_18.length) = True := eq_true (by omega)
          (try rw [show ((0 : Int)).toNat = 0 from rfl] at hx140_0)
          (try rw [show 0 * 5 = 0 from rfl] at hx140_0)
          (try rw [Addr.add_zero'] at hx140_0)
          (try rw [show ((0 : Int)).toNat = 0 from rfl] at hx140_1)
          (try rw [show 0 * 5 = 0 from rfl] at hx140_1)
          (try rw [Addr.add_zero'] at hx140_1)
          (try rw [show ((0 : Int)).toNat = 0 from rfl] at hx140_2)
          (try rw [show 0 * 5 = 0 from rfl] at hx140_2)
          (try rw [Addr.add_zero'] at hx140_2)
          (try rw [show ((0 : Int)).toNat = 0 from rfl] at hx140_3)
          (try rw [show 0 * 5 = 0 from rfl] at hx140_3)
          (try rw [Addr.add_zero'] at hx140_3)
          (try rw [show ((0 : Int)).toNat = 0 from rfl] at hx140_4)
          (try rw [show 0 * 5 = 0 from rfl] at hx140_4)
          (try rw [Addr.add_zero'] at hx140_4)
          replace p140 := eq_true p140
          replace q140 := eq_true q140
          have p141 : 0 ≤ (0 : Int) := (by omega)
          have q141 : 0 < (x137001_18.length : Int) := of_decide_eq_true (by first | (with_reducible assumption) | assumption)
          obtain ⟨ad141, e141, hx141_0, hx141_1, hx141_2, hx141_3, hx141_4⟩ := at_T28 (Kc.R_reads' HO_137001.out).2.2 0 p141 q141
          obtain rfl : ad140 = ad141 := (by injection e141)
          have qi141 : (0 < x137001_18.length) = True := eq_true (by omega)
          (try rw [show ((0 : Int)).toNat = 0 from rfl] at hx141_0)
          (try rw [show 0 * 5 = 0 from rfl] at hx141_0)
          (try rw [Addr.add_zero'] at hx141_0)
          (try rw [show ((0 : Int)).toNat = 0 from rfl] at hx141_1)
          (try rw [show 0 * 5 = 0 from rfl] at hx141_1)
          (try rw [Addr.add_zero'] at hx141_1)
          (try rw [show ((0 : Int)).toNat = 0 from rfl] at hx141_2)
          (try rw [show 0 * 5 = 0 from rfl] at hx141_2)
          (try rw [Addr.add_zero'] at hx141_2)
          (try rw [show ((0 : Int)).toNat = 0 from rfl] at hx141_3)
          (try rw [show 0 * 5 = 0 from rfl] at hx141_3)
          (try rw [Addr.add_zero'] at hx141_3)
          (try rw [show ((0 : Int)).toNat = 0 from rfl] at hx141_4)
          (try rw [show 0 * 5 = 0 from rfl] at hx141_4)
          (try rw [Addr.add_zero'] at hx141_4)
          replace p141 := eq_true p141
          replace q141 := eq_true q141
          go_wp2
          repeat (go_quiet (fail); try go_wp2)
          go_loopg [10, 11, 66] kj18 (fun kq v10 v11 v66 w' => ∃ (x10_2 : ByteArray) (x11_2 : ByteArray) (x66_2 : Int), v10 = .string x10_2 ∧ v11 = .string x11_2 ∧ v66 = .int .i64 x66_2 ∧ Aside0 (pick_Pick.l0 kq t130 x10_2 x11_2 x137001_18 (x137001_18.length : Int) x66_2 l0_0 a0_1 a0_2 a0_3 t130 x137001_18 = some (r1, r2, r3, r4)) ∧ Aside0 (kq ≤ kj18) ∧ Aside0 (Kc.R k28 28 w' w.heap.size (fun _ => True) (.slice (some ad140) x137001_18.length co47) x137001_18) ∧ Aside0 (Kc.R k28 28 w' w.heap.size (fun _ => True) (.slice (some ad140) x137001_18.length co47) x137001_18) ∧ Aside0 (w'.heap[gb127]? = some (.cells #[(.slice (some ad132) l0_0.length c0_0), .int .i64 a0_1, .int .i64 a0_2, .string a0_3] 24 (0, 0))) ∧ Aside0 (w'.heap[gb128]? = some (.cells #[.int .i64 0, (.slice none 0 0), (.slice none 0 0)] 31 (0, 0))) ∧ Aside0 (w'.heap[gb136]? = some (.cells #[.int .i64 t130, (.slice (some ad140) x137001_18.length co47), (.slice none 0 0)] 31 (0, 0))) ∧ Aside0 (Below w.heap.size w w'))
          case atStart => exact ⟨((rd_T28 x137001_18 0).f3), ((rd_T28 x137001_18 0).f4), (0), (by first | rfl | (simp; done) | (simp [*]; done)), (by first | rfl | (simp; done) | (simp [*]; done)), (by first | rfl | (simp; done) | (simp [*]; done)), H', ⟨Nat.le_refl _⟩, ⟨by (with_reducible repeat (first | apply Kc.R_alloc | apply Kc.R_drewN | apply Kc.R_drew)); exact HO_137001.out⟩, ⟨by (with_reducible repeat (first | apply Kc.R_alloc | apply Kc.R_drewN | apply Kc.R_drew)); exact HO_137001.out⟩, ⟨by (with_reducible repeat (first | refine blk_drewN ?_ _ | refine blk_drew ?_ | refine blk_alloc ?_ _)); exact BK127.out⟩, ⟨by (with_reducible repeat (first | refine blk_drewN ?_ _ | refine blk_drew ?_ | refine blk_alloc ?_ _)); exact BK128.out⟩, ⟨by (with_reducible repeat (first | refine blk_drewN ?_ _ | refine blk_drew ?_ | refine blk_alloc ?_ _)); exact BK136.out⟩, ⟨by repeat (first | (with_reducible first | exact HB.out | apply below_alloc | apply pw_below_drewN | apply below_drew1 | refine below_set ?_ GE127.out | refine below_set ?_ GE128.out | refine below_set ?_ GE136.out) | exact HB.out)⟩⟩
          case round =>
           clear H'
           try clear c1
           try clear p1
           try clear q1
           try clear hx1
           try clear qi1
           try clear c2
           try clear p2
           try clear c3
           try clear c3b0
           try clear c3b1
           try clear c4
           try clear c6
           try clear c6b0
           try clear c6b1
           try clear c8
           try clear c9
           try clear c13
           try clear p13
           try clear q13
           try clear hx13
           try clear p14
           try clear q14
           try clear hx14
           try clear qi14
           try clear c16
           try clear c16b0
           try clear c17
           try clear c17b0
           try clear c22
           try clear c32
           try clear c33
           try clear c35
           try clear c35b0
           try clear c37
           try clear c38
           try clear c43
           try clear c43b0
           try clear c43b1
           try clear c44
           try clear c45
           try clear hcz10_0
           try clear hcz10_1
           try clear hcz10_2
           try clear hcz10_3
           try clear hcz12_0
           try clear hcz12_1
           try clear hcz12_2
           try clear hcz12_3
           try clear hcz15_0
           try clear hcz15_1
           try clear hcz15_2
           try clear hcz23_0
           try clear hcz23_1
           try clear hcz23_2
           try clear hcz23_3
           try clear hcz25_0
           try clear hcz25_1
           try clear hcz25_2
           try clear hcz25_3
           try clear hcz28_0
           try clear hcz28_1
           try clear hcz28_2
           try clear hcz28_3
           try clear hcz34_0
           try clear hcz34_1
           try clear hcz34_2
           try clear hcz39_0
           try clear hcz39_1
           try clear hcz39_2
           try clear hcz42_0
           try clear hcz42_1
           try clear hcz42_2
           try clear hcz46_0
           try clear hcz46_1
           try clear hcz46_2
           try clear hfz10_0
           try clear hfz10_1
           try clear hfz10_2
           try clear hfz10_3
           try clear hfz12_0
           try clear hfz12_1
           try clear hfz12_2
           try clear hfz12_3
           try clear hfz15_0
           try clear hfz15_1
           try clear hfz15_2
           try clear hfz23_0
           try clear hfz23_1
           try clear hfz23_2
           try clear hfz23_3
           try clear hfz25_0
           try clear hfz25_1
           try clear hfz25_2
           try clear hfz25_3
           try clear hfz28_0
           try clear hfz28_1
           try clear hfz28_2
           try clear hfz28_3
           try clear hfz34_0
           try clear hfz34_1
           try clear hfz34_2
           try clear hfz39_0
           try clear hfz39_1
           try clear hfz39_2
           try clear hfz42_0
           try clear hfz42_1
           try clear hfz42_2
           try clear hfz46_0
           try clear hfz46_1
           try clear hfz46_2
           try clear hx132_0
           try clear hx140_0
           try clear hx140_1
           try clear hx140_2
           try clear hx140_3
           try clear hx140_4
           try clear hx141_0
           try clear hx141_1
           try clear hx141_2
           try clear hx141_3
           try clear hx141_4
           try clear p1
           try clear p13
           try clear p132
           try clear p140
           try clear p141
           try clear p2
           try clear q1
           try clear q13
           try clear q132
           try clear q140
           try clear q141
           obtain ⟨x10_2, x11_2, x66_2, rfl, rfl, rfl, HA, HK2, HO_64, HO_137001, BK127, BK128, BK136, HB⟩ := hrel
           cases gk with
           | zero => exact absurd HA.out (by simp [pick_Pick.l0])
           | succ k2 =>
            have H := HA.out
            clear HA
            simp only [pick_Pick.l0] at H
            by_cases c48 : x66_2 < (x137001_18.length : Int)
            ·
             rw [if_pos c48] at H
             have c48b0 : decide (x66_2 < (x137001_18.length : Int)) = true := decide_eq_true c48
             clear c48
             by_cases c49 : 0 ≤ x66_2
             ·
              rw [if_pos c49] at H
              have c49b0 : decide (0 ≤ x66_2) = true := decide_eq_true c49
              clear c49
              by_cases c50 : x66_2 < (x137001_18.length : Int)
              ·
               rw [if_pos c50] at H
               have c50b0 : decide (x66_2 < (x137001_18.length : Int)) = true := decide_eq_true c50
               clear c50
               have H' := Aside0.mk H
               clear H
               have p142 : 0 ≤ (x66_2 : Int) := of_decide_eq_true (by first | (with_reducible assumption) | assumption)
               have q142 : x66_2 < (x137001_18.length : Int) := of_decide_eq_true (by first | (with_reducible assumption) | assumption)
               obtain ⟨ad142, e142, hx142_0, hx142_1, hx142_2, hx142_3, hx142_4⟩ := at_T28 (Kc.R_reads' HO_64.out).2.2 x66_2 p142 q142
               obtain rfl : ad140 = ad142 := (by injection e142)
               replace p142 := eq_true p142
               replace q142 := eq_true q142
               go_wp2_with (first | ((with_reducible refine gate_dst (N := 13) rfl ?_); refine box_event ?hg (N := 13) ?hd (cs := #[.string (⟨#[]⟩ : ByteArray), .int .i64 0, .int .i64 0, .string (⟨#[]⟩ : ByteArray), .string (⟨#[]⟩ : ByteArray)]) (t := 28) ?hr ?_; (case hd => rfl); (case hg => rfl); (case hr => first | (go_simp; done) | (go_simp; rfl)); intro gb143 hg w51 hbox hb; have n0_ := Aside0.mk (Kc.R_below (Kc.R_elderB (by (with_reducible repeat (first | apply Kc.R_alloc | apply Kc.R_drewN | apply Kc.R_drew)); exact HO_64.out) gb143 (Nat.le_of_eq hg.symm)) hb); have n1_ := Aside0.mk (Kc.R_below (Kc.R_elderB (by (with_reducible repeat (first | apply Kc.R_alloc | apply Kc.R_drewN | apply Kc.R_drew)); exact HO_137001.out) gb143 (Nat.le_of_eq hg.symm)) hb); have n2_ := Aside0.mk (blk_below (g := gb127) (o := .cells #[.slice (some ad132) l0_0.length c0_0, .int .i64 a0_1, .int .i64 a0_2, .string a0_3] 24 (0, 0)) (by (with_reducible repeat (first | refine blk_drewN ?_ _ | refine blk_drew ?_ | refine blk_alloc ?_ _)); exact BK127.out) hb); have n3_ := Aside0.mk (blk_below (g := gb128) (o := .cells #[.int .i64 0, .slice none 0 0, .slice none 0 0] 31 (0, 0)) (by (with_reducible repeat (first | refine blk_drewN ?_ _ | refine blk_drew ?_ | refine blk_alloc ?_ _)); exact BK128.out) hb); have n4_ := Aside0.mk (blk_below (g := gb136) (o := .cells #[.int .i64 t130, .slice (some ad140) x137001_18.length co47, .slice none 0 0] 31 (0, 0)) (by (with_reducible repeat (first | refine blk_drewN ?_ _ | refine blk_drew ?_ | refine blk_alloc ?_ _)); exact BK136.out) hb); have n5_ := Aside0.mk (below_step (by repeat (first | (with_reducible first | exact HB.out | apply below_alloc | apply pw_below_drewN | apply below_drew1 | refine below_set ?_ GE127.out | refine below_set ?_ GE128.out | refine below_set ?_ GE136.out) | exact HB.out)) hb); have n6_ := Aside0.mk (hbox); have n7_ := Aside0.mk ((by rw [hg]; exact (below_size (by repeat (first | (with_reducible first | exact HB.out | apply below_alloc | apply pw_below_drewN | apply below_drew1 | refine below_set ?_ GE127.out | refine below_set ?_ GE128.out | refine below_set ?_ GE136.out) | exact HB.out))) : w.heap.size ≤ gb143)); have n8_ := Aside0.mk ((by rw [hg]; exact (below_size (by repeat (first | (with_reducible first | exact HB.out | apply below_alloc | apply pw_below_drewN | apply below_drew1 | refine below_set ?_ GE127.out | refine below_set ?_ GE128.out | refine below_set ?_ GE136.out) | exact HB.out))) : w.heap.size ≤ gb143)); have n9_ := Aside0.mk ((by rw [hg]; exact Nat.ne_of_lt (blk_lt (g := gb127) (o := .cells #[.slice (some ad132) l0_0.length c0_0, .int .i64 a0_1, .int .i64 a0_2, .string a0_3] 24 (0, 0)) (by (with_reducible repeat (first | refine blk_drewN ?_ _ | refine blk_drew ?_ | refine blk_alloc ?_ _)); exact BK127.out)) : gb127 ≠ gb143)); have n10_ := Aside0.mk ((by rw [hg]; exact Nat.ne_of_gt (blk_lt (g := gb127) (o := .cells #[.slice (some ad132) l0_0.length c0_0, .int .i64 a0_1, .int .i64 a0_2, .string a0_3] 24 (0, 0)) (by (with_reducible repeat (first | refine blk_drewN ?_ _ | refine blk_drew ?_ | refine blk_alloc ?_ _)); exact BK127.out)) : gb143 ≠ gb127)); have n11_ := Aside0.mk ((by rw [hg]; exact Nat.ne_of_lt (blk_lt (g := gb128) (o := .cells #[.int .i64 0, .slice none 0 0, .slice none 0 0] 31 (0, 0)) (by (with_reducible repeat (first | refine blk_drewN ?_ _ | refine blk_drew ?_ | refine blk_alloc ?_ _)); exact BK128.out)) : gb128 ≠ gb143)); have n12_ := Aside0.mk ((by rw [hg]; exact Nat.ne_of_gt (blk_lt (g := gb128) (o := .cells #[.int .i64 0, .slice none 0 0, .slice none 0 0] 31 (0, 0)) (by (with_reducible repeat (first | refine blk_drewN ?_ _ | refine blk_drew ?_ | refine blk_alloc ?_ _)); exact BK128.out)) : gb143 ≠ gb128)); have n13_ := Aside0.mk ((by rw [hg]; exact Nat.ne_of_lt (blk_lt (g := gb136) (o := .cells #[.int .i64 t130, .slice (some ad140) x137001_18.length co47, .slice none 0 0] 31 (0, 0)) (by (with_reducible repeat (first | refine blk_drewN ?_ _ | refine blk_drew ?_ | refine blk_alloc ?_ _)); exact BK136.out)) : gb136 ≠ gb143)); have n14_ := Aside0.mk ((by rw [hg]; exact Nat.ne_of_gt (blk_lt (g := gb136) (o := .cells #[.int .i64 t130, .slice (some ad140) x137001_18.length co47, .slice none 0 0] 31 (0, 0)) (by (with_reducible repeat (first | refine blk_drewN ?_ _ | refine blk_drew ?_ | refine blk_alloc ?_ _)); exact BK136.out)) : gb143 ≠ gb136)); clear HO_64; clear HO_137001; clear BK127; clear BK128; clear BK136; clear HB; have HO_64 := n0_; have HO_137001 := n1_; have BK127 := n2_; have BK128 := n3_; have BK136 := n4_; have HB := n5_; have BK143 := n6_; have GW143 := n7_; have GE143 := n8_; have NB127_143 := n9_; have NB143_127 := n10_; have NB128_143 := n11_; have NB143_128 := n12_; have NB136_143 := n13_; have NB143_136 := n14_; clear n0_ n1_ n2_ n3_ n4_ n5_ n6_ n7_ n8_ n9_ n10_ n11_ n12_ n13_ n14_; clear hb hbox hg; have hnb52 := NB143_127.out; have hnc52 := NB127_143.out; have hnb53 := NB143_128.out; have hnc53 := NB128_143.out; have hnb54 := NB143_136.out; have hnc54 := NB136_143.out; have hcz55_0 : w51.cell? ⟨gb143, 0, none⟩ = some (.string (⟨#[]⟩ : ByteArray)) := (blk_cell BK143.out 0).trans rfl; have hcz55_1 : w51.cell? ⟨gb143, 1, none⟩ = some (.int .i64 0) := (blk_cell BK143.out 1).trans rfl; have hcz55_2 : w51.cell? ⟨gb143, 2, none⟩ = some (.int .i64 0) := (blk_cell BK143.out 2).trans rfl; have hcz55_3 : w51.cell? ⟨gb143, 3, none⟩ = some (.string (⟨#[]⟩ : ByteArray)) := (blk_cell BK143.out 3).trans rfl; have hcz55_4 : w51.cell? ⟨gb143, 4, none⟩ = some (.string (⟨#[]⟩ : ByteArray)) := (blk_cell BK143.out 4).trans rfl; have hfz55_0 := blk_frozen BK143.out 0; have hfz55_1 := blk_frozen BK143.out 1; have hfz55_2 := blk_frozen BK143.out 2; have hfz55_3 := blk_frozen BK143.out 3; have hfz55_4 := blk_frozen BK143.out 4))
               repeat (go_quiet (first | ((with_reducible refine gate_dst (N := 13) rfl ?_); refine box_event ?hg (N := 13) ?hd (cs := #[.string (⟨#[]⟩ : ByteArray), .int .i64 0, .int .i64 0, .string (⟨#[]⟩ : ByteArray), .string (⟨#[]⟩ : ByteArray)]) (t := 28) ?hr ?_; (case hd => rfl); (case hg => rfl); (case hr => first | (go_simp; done) | (go_simp; rfl)); intro gb143 hg w51 hbox hb; have n0_ := Aside0.mk (Kc.R_below (Kc.R_elderB (by (with_reducible repeat (first | apply Kc.R_alloc | apply Kc.R_drewN | apply Kc.R_drew)); exact HO_64.out) gb143 (Nat.le_of_eq hg.symm)) hb); have n1_ := Aside0.mk (Kc.R_below (Kc.R_elderB (by (with_reducible repeat (first | apply Kc.R_alloc | apply Kc.R_drewN | apply Kc.R_drew)); exact HO_137001.out) gb143 (Nat.le_of_eq hg.symm)) hb); have n2_ := Aside0.mk (blk_below (g := gb127) (o := .cells #[.slice (some ad132) l0_0.length c0_0, .int .i64 a0_1, .int .i64 a0_2, .string a0_3] 24 (0, 0)) (by (with_reducible repeat (first | refine blk_drewN ?_ _ | refine blk_drew ?_ | refine blk_alloc ?_ _)); exact BK127.out) hb); have n3_ := Aside0.mk (blk_below (g := gb128) (o := .cells #[.int .i64 0, .slice none 0 0, .slice none 0 0] 31 (0, 0)) (by (with_reducible repeat (first | refine blk_drewN ?_ _ | refine blk_drew ?_ | refine blk_alloc ?_ _)); exact BK128.out) hb); have n4_ := Aside0.mk (blk_below (g := gb136) (o := .cells #[.int .i64 t130, .slice (some ad140) x137001_18.length co47, .slice none 0 0] 31 (0, 0)) (by (with_reducible repeat (first | refine blk_drewN ?_ _ | refine blk_drew ?_ | refine blk_alloc ?_ _)); exact BK136.out) hb); have n5_ := Aside0.mk (below_step (by repeat (first | (with_reducible first | exact HB.out | apply below_alloc | apply pw_below_drewN | apply below_drew1 | refine below_set ?_ GE127.out | refine below_set ?_ GE128.out | refine below_set ?_ GE136.out) | exact HB.out)) hb); have n6_ := Aside0.mk (hbox); have n7_ := Aside0.mk ((by rw [hg]; exact (below_size (by repeat (first | (with_reducible first | exact HB.out | apply below_alloc | apply pw_below_drewN | apply below_drew1 | refine below_set ?_ GE127.out | refine below_set ?_ GE128.out | refine below_set ?_ GE136.out) | exact HB.out))) : w.heap.size ≤ gb143)); have n8_ := Aside0.mk ((by rw [hg]; exact (below_size (by repeat (first | (with_reducible first | exact HB.out | apply below_alloc | apply pw_below_drewN | apply below_drew1 | refine below_set ?_ GE127.out | refine below_set ?_ GE128.out | refine below_set ?_ GE136.out) | exact HB.out))) : w.heap.size ≤ gb143)); have n9_ := Aside0.mk ((by rw [hg]; exact Nat.ne_of_lt (blk_lt (g := gb127) (o := .cells #[.slice (some ad132) l0_0.length c0_0, .int .i64 a0_1, .int .i64 a0_2, .string a0_3] 24 (0, 0)) (by (with_reducible repeat (first | refine blk_drewN ?_ _ | refine blk_drew ?_ | refine blk_alloc ?_ _)); exact BK127.out)) : gb127 ≠ gb143)); have n10_ := Aside0.mk ((by rw [hg]; exact Nat.ne_of_gt (blk_lt (g := gb127) (o := .cells #[.slice (some ad132) l0_0.length c0_0, .int .i64 a0_1, .int .i64 a0_2, .string a0_3] 24 (0, 0)) (by (with_reducible repeat (first | refine blk_drewN ?_ _ | refine blk_drew ?_ | refine blk_alloc ?_ _)); exact BK127.out)) : gb143 ≠ gb127)); have n11_ := Aside0.mk ((by rw [hg]; exact Nat.ne_of_lt (blk_lt (g := gb128) (o := .cells #[.int .i64 0, .slice none 0 0, .slice none 0 0] 31 (0, 0)) (by (with_reducible repeat (first | refine blk_drewN ?_ _ | refine blk_drew ?_ | refine blk_alloc ?_ _)); exact BK128.out)) : gb128 ≠ gb143)); have n12_ := Aside0.mk ((by rw [hg]; exact Nat.ne_of_gt (blk_lt (g := gb128) (o := .cells #[.int .i64 0, .slice none 0 0, .slice none 0 0] 31 (0, 0)) (by (with_reducible repeat (first | refine blk_drewN ?_ _ | refine blk_drew ?_ | refine blk_alloc ?_ _)); exact BK128.out)) : gb143 ≠ gb128)); have n13_ := Aside0.mk ((by rw [hg]; exact Nat.ne_of_lt (blk_lt (g := gb136) (o := .cells #[.int .i64 t130, .slice (some ad140) x137001_18.length co47, .slice none 0 0] 31 (0, 0)) (by (with_reducible repeat (first | refine blk_drewN ?_ _ | refine blk_drew ?_ | refine blk_alloc ?_ _)); exact BK136.out)) : gb136 ≠ gb143)); have n14_ := Aside0.mk ((by rw [hg]; exact Nat.ne_of_gt (blk_lt (g := gb136) (o := .cells #[.int .i64 t130, .slice (some ad140) x137001_18.length co47, .slice none 0 0] 31 (0, 0)) (by (with_reducible repeat (first | refine blk_drewN ?_ _ | refine blk_drew ?_ | refine blk_alloc ?_ _)); exact BK136.out)) : gb143 ≠ gb136)); clear HO_64; clear HO_137001; clear BK127; clear BK128; clear BK136; clear HB; have HO_64 := n0_; have HO_137001 := n1_; have BK127 := n2_; have BK128 := n3_; have BK136 := n4_; have HB := n5_; have BK143 := n6_; have GW143 := n7_; have GE143 := n8_; have NB127_143 := n9_; have NB143_127 := n10_; have NB128_143 := n11_; have NB143_128 := n12_; have NB136_143 := n13_; have NB143_136 := n14_; clear n0_ n1_ n2_ n3_ n4_ n5_ n6_ n7_ n8_ n9_ n10_ n11_ n12_ n13_ n14_; clear hb hbox hg; have hnb52 := NB143_127.out; have hnc52 := NB127_143.out; have hnb53 := NB143_128.out; have hnc53 := NB128_143.out; have hnb54 := NB143_136.out; have hnc54 := NB136_143.out; have hcz55_0 : w51.cell? ⟨gb143, 0, none⟩ = some (.string (⟨#[]⟩ : ByteArray)) := (blk_cell BK143.out 0).trans rfl; have hcz55_1 : w51.cell? ⟨gb143, 1, none⟩ = some (.int .i64 0) := (blk_cell BK143.out 1).trans rfl; have hcz55_2 : w51.cell? ⟨gb143, 2, none⟩ = some (.int .i64 0) := (blk_cell BK143.out 2).trans rfl; have hcz55_3 : w51.cell? ⟨gb143, 3, none⟩ = some (.string (⟨#[]⟩ : ByteArray)) := (blk_cell BK143.out 3).trans rfl; have hcz55_4 : w51.cell? ⟨gb143, 4, none⟩ = some (.string (⟨#[]⟩ : ByteArray)) := (blk_cell BK143.out 4).trans rfl; have hfz55_0 := blk_frozen BK143.out 0; have hfz55_1 := blk_frozen BK143.out 1; have hfz55_2 := blk_frozen BK143.out 2; have hfz55_3 := blk_frozen BK143.out 3; have hfz55_4 := blk_frozen BK143.out 4)); try go_wp2_with (first | ((with_reducible refine gate_dst (N := 13) rfl ?_); refine box_event ?hg (N := 13) ?hd (cs := #[.string (⟨#[]⟩ : ByteArray), .int .i64 0, .int .i64 0, .string (⟨#[]⟩ : ByteArray), .string (⟨#[]⟩ : ByteArray)]) (t := 28) ?hr ?_; (case hd => rfl); (case hg => rfl); (case hr => first | (go_simp; done) | (go_simp; rfl)); intro gb143 hg w51 hbox hb; have n0_ := Aside0.mk (Kc.R_below (Kc.R_elderB (by (with_reducible repeat (first | apply Kc.R_alloc | apply Kc.R_drewN | apply Kc.R_drew)); exact HO_64.out) gb143 (Nat.le_of_eq hg.symm)) hb); have n1_ := Aside0.mk (Kc.R_below (Kc.R_elderB (by (with_reducible repeat (first | apply Kc.R_alloc | apply Kc.R_drewN | apply Kc.R_drew)); exact HO_137001.out) gb143 (Nat.le_of_eq hg.symm)) hb); have n2_ := Aside0.mk (blk_below (g := gb127) (o := .cells #[.slice (some ad132) l0_0.length c0_0, .int .i64 a0_1, .int .i64 a0_2, .string a0_3] 24 (0, 0)) (by (with_reducible repeat (first | refine blk_drewN ?_ _ | refine blk_drew ?_ | refine blk_alloc ?_ _)); exact BK127.out) hb); have n3_ := Aside0.mk (blk_below (g := gb128) (o := .cells #[.int .i64 0, .slice none 0 0, .slice none 0 0] 31 (0, 0)) (by (with_reducible repeat (first | refine blk_drewN ?_ _ | refine blk_drew ?_ | refine blk_alloc ?_ _)); exact BK128.out) hb); have n4_ := Aside0.mk (blk_below (g := gb136) (o := .cells #[.int .i64 t130, .slice (some ad140) x137001_18.length co47, .slice none 0 0] 31 (0, 0)) (by (with_reducible repeat (first | refine blk_drewN ?_ _ | refine blk_drew ?_ | refine blk_alloc ?_ _)); exact BK136.out) hb); have n5_ := Aside0.mk (below_step (by repeat (first | (with_reducible first | exact HB.out | apply below_alloc | apply pw_below_drewN | apply below_drew1 | refine below_set ?_ GE127.out | refine below_set ?_ GE128.out | refine below_set ?_ GE136.out) | exact HB.out)) hb); have n6_ := Aside0.mk (hbox); have n7_ := Aside0.mk ((by rw [hg]; exact (below_size (by repeat (first | (with_reducible first | exact HB.out | apply below_alloc | apply pw_below_drewN | apply below_drew1 | refine below_set ?_ GE127.out | refine below_set ?_ GE128.out | refine below_set ?_ GE136.out) | exact HB.out))) : w.heap.size ≤ gb143)); have n8_ := Aside0.mk ((by rw [hg]; exact (below_size (by repeat (first | (with_reducible first | exact HB.out | apply below_alloc | apply pw_below_drewN | apply below_drew1 | refine below_set ?_ GE127.out | refine below_set ?_ GE128.out | refine below_set ?_ GE136.out) | exact HB.out))) : w.heap.size ≤ gb143)); have n9_ := Aside0.mk ((by rw [hg]; exact Nat.ne_of_lt (blk_lt (g := gb127) (o := .cells #[.slice (some ad132) l0_0.length c0_0, .int .i64 a0_1, .int .i64 a0_2, .string a0_3] 24 (0, 0)) (by (with_reducible repeat (first | refine blk_drewN ?_ _ | refine blk_drew ?_ | refine blk_alloc ?_ _)); exact BK127.out)) : gb127 ≠ gb143)); have n10_ := Aside0.mk ((by rw [hg]; exact Nat.ne_of_gt (blk_lt (g := gb127) (o := .cells #[.slice (some ad132) l0_0.length c0_0, .int .i64 a0_1, .int .i64 a0_2, .string a0_3] 24 (0, 0)) (by (with_reducible repeat (first | refine blk_drewN ?_ _ | refine blk_drew ?_ | refine blk_alloc ?_ _)); exact BK127.out)) : gb143 ≠ gb127)); have n11_ := Aside0.mk ((by rw [hg]; exact Nat.ne_of_lt (blk_lt (g := gb128) (o := .cells #[.int .i64 0, .slice none 0 0, .slice none 0 0] 31 (0, 0)) (by (with_reducible repeat (first | refine blk_drewN ?_ _ | refine blk_drew ?_ | refine blk_alloc ?_ _)); exact BK128.out)) : gb128 ≠ gb143)); have n12_ := Aside0.mk ((by rw [hg]; exact Nat.ne_of_gt (blk_lt (g := gb128) (o := .cells #[.int .i64 0, .slice none 0 0, .slice none 0 0] 31 (0, 0)) (by (with_reducible repeat (first | refine blk_drewN ?_ _ | refine blk_drew ?_ | refine blk_alloc ?_ _)); exact BK128.out)) : gb143 ≠ gb128)); have n13_ := Aside0.mk ((by rw [hg]; exact Nat.ne_of_lt (blk_lt (g := gb136) (o := .cells #[.int .i64 t130, .slice (some ad140) x137001_18.length co47, .slice none 0 0] 31 (0, 0)) (by (with_reducible repeat (first | refine blk_drewN ?_ _ | refine blk_drew ?_ | refine blk_alloc ?_ _)); exact BK136.out)) : gb136 ≠ gb143)); have n14_ := Aside0.mk ((by rw [hg]; exact Nat.ne_of_gt (blk_lt (g := gb136) (o := .cells #[.int .i64 t130, .slice (some ad140) x137001_18.length co47, .slice none 0 0] 31 (0, 0)) (by (with_reducible repeat (first | refine blk_drewN ?_ _ | refine blk_drew ?_ | refine blk_alloc ?_ _)); exact BK136.out)) : gb143 ≠ gb136)); clear HO_64; clear HO_137001; clear BK127; clear BK128; clear BK136; clear HB; have HO_64 := n0_; have HO_137001 := n1_; have BK127 := n2_; have BK128 := n3_; have BK136 := n4_; have HB := n5_; have BK143 := n6_; have GW143 := n7_; have GE143 := n8_; have NB127_143 := n9_; have NB143_127 := n10_; have NB128_143 := n11_; have NB143_128 := n12_; have NB136_143 := n13_; have NB143_136 := n14_; clear n0_ n1_ n2_ n3_ n4_ n5_ n6_ n7_ n8_ n9_ n10_ n11_ n12_ n13_ n14_; clear hb hbox hg; have hnb52 := NB143_127.out; have hnc52 := NB127_143.out; have hnb53 := NB143_128.out; have hnc53 := NB128_143.out; have hnb54 := NB143_136.out; have hnc54 := NB136_143.out; have hcz55_0 : w51.cell? ⟨gb143, 0, none⟩ = some (.string (⟨#[]⟩ : ByteArray)) := (blk_cell BK143.out 0).trans rfl; have hcz55_1 : w51.cell? ⟨gb143, 1, none⟩ = some (.int .i64 0) := (blk_cell BK143.out 1).trans rfl; have hcz55_2 : w51.cell? ⟨gb143, 2, none⟩ = some (.int .i64 0) := (blk_cell BK143.out 2).trans rfl; have hcz55_3 : w51.cell? ⟨gb143, 3, none⟩ = some (.string (⟨#[]⟩ : ByteArray)) := (blk_cell BK143.out 3).trans rfl; have hcz55_4 : w51.cell? ⟨gb143, 4, none⟩ = some (.string (⟨#[]⟩ : ByteArray)) := (blk_cell BK143.out 4).trans rfl; have hfz55_0 := blk_frozen BK143.out 0; have hfz55_1 := blk_frozen BK143.out 1; have hfz55_2 := blk_frozen BK143.out 2; have hfz55_3 := blk_frozen BK143.out 3; have hfz55_4 := blk_frozen BK143.out 4)))
               go_roundg k2
               case measure => have := HJ18.out; have := HK2.out; omega
               case rel => exact ⟨((mnS x10_2 ((rd_T28 x137001_18 x66_2).f3))), ((mxS x11_2 ((rd_T28 x137001_18 x66_2).f4))), (wrap64 (x66_2 + 1)), (by first | rfl | (simp; done) | (simp [*]; done)), (by first | rfl | (simp; done) | (simp [*]; done)), (by first | rfl | (simp; done) | (simp [*]; done)), H', ⟨by have := HJ18.out; have := HK2.out; omega⟩, ⟨by (with_reducible repeat (first | apply Kc.R_alloc | apply Kc.R_drewN | apply Kc.R_drew)); exact Kc.R_mono (Kc.R_far (p := ⟨gb143, 4, none⟩) (Kc.R_far (p := ⟨gb143, 3, none⟩) (Kc.R_far (p := ⟨gb143, 2, none⟩) (Kc.R_far (p := ⟨gb143, 1, none⟩) (Kc.R_far (p := ⟨gb143, 0, none⟩) (Kc.R_mono HO_64.out (fun k_ hk => (⟨hk, hk.2⟩ : _ ∧ k_ ≠ gb143))) (fun _ hk => hk.2) (.string ((rd_T28 x137001_18 x66_2).f0))) (fun _ hk => hk.2) (.int .i64 ((rd_T28 x137001_18 x66_2).f1))) (fun _ hk => hk.2) (.int .i64 ((rd_T28 x137001_18 x66_2).f2))) (fun _ hk => hk.2) (.string ((rd_T28 x137001_18 x66_2).f3))) (fun _ hk => hk.2) (.string ((rd_T28 x137001_18 x66_2).f4))) (fun _ hk => trivial)⟩, ⟨by (with_reducible repeat (first | apply Kc.R_alloc | apply Kc.R_drewN | apply Kc.R_drew)); exact Kc.R_mono (Kc.R_far (p := ⟨gb143, 4, none⟩) (Kc.R_far (p := ⟨gb143, 3, none⟩) (Kc.R_far (p := ⟨gb143, 2, none⟩) (Kc.R_far (p := ⟨gb143, 1, none⟩) (Kc.R_far (p := ⟨gb143, 0, none⟩) (Kc.R_mono HO_137001.out (fun k_ hk => (⟨hk, hk.2⟩ : _ ∧ k_ ≠ gb143))) (fun _ hk => hk.2) (.string ((rd_T28 x137001_18 x66_2).f0))) (fun _ hk => hk.2) (.int .i64 ((rd_T28 x137001_18 x66_2).f1))) (fun _ hk => hk.2) (.int .i64 ((rd_T28 x137001_18 x66_2).f2))) (fun _ hk => hk.2) (.string ((rd_T28 x137001_18 x66_2).f3))) (fun _ hk => hk.2) (.string ((rd_T28 x137001_18 x66_2).f4))) (fun _ hk => trivial)⟩, ⟨by (with_reducible repeat (first | refine blk_drewN ?_ _ | refine blk_drew ?_ | refine blk_alloc ?_ _)); refine blk_far ?_ NB127_143.out _; (with_reducible repeat (first | refine blk_drewN ?_ _ | refine blk_drew ?_ | refine blk_alloc ?_ _)); refine blk_far ?_ NB127_143.out _; (with_reducible repeat (first | refine blk_drewN ?_ _ | refine blk_drew ?_ | refine blk_alloc ?_ _)); refine blk_far ?_ NB127_143.out _; (with_reducible repeat (first | refine blk_drewN ?_ _ | refine blk_drew ?_ | refine blk_alloc ?_ _)); refine blk_far ?_ NB127_143.out _; (with_reducible repeat (first | refine blk_drewN ?_ _ | refine blk_drew ?_ | refine blk_alloc ?_ _)); refine blk_far ?_ NB127_143.out _; (with_reducible repeat (first | refine blk_drewN ?_ _ | refine blk_drew ?_ | refine blk_alloc ?_ _)); exact BK127.out⟩, ⟨by (with_reducible repeat (first | refine blk_drewN ?_ _ | refine blk_drew ?_ | refine blk_alloc ?_ _)); refine blk_far ?_ NB128_143.out _; (with_reducible repeat (first | refine blk_drewN ?_ _ | refine blk_drew ?_ | refine blk_alloc ?_ _)); refine blk_far ?_ NB128_143.out _; (with_reducible repeat (first | refine blk_drewN ?_ _ | refine blk_drew ?_ | refine blk_alloc ?_ _)); refine blk_far ?_ NB128_143.out _; (with_reducible repeat (first | refine blk_drewN ?_ _ | refine blk_drew ?_ | refine blk_alloc ?_ _)); refine blk_far ?_ NB128_143.out _; (with_reducible repeat (first | refine blk_drewN ?_ _ | refine blk_drew ?_ | refine blk_alloc ?_ _)); refine blk_far ?_ NB128_143.out _; (with_reducible repeat (first | refine blk_drewN ?_ _ | refine blk_drew ?_ | refine blk_alloc ?_ _)); exact BK128.out⟩, ⟨by (with_reducible repeat (first | refine blk_drewN ?_ _ | refine blk_drew ?_ | refine blk_alloc ?_ _)); refine blk_far ?_ NB136_143.out _; (with_reducible repeat (first | refine blk_drewN ?_ _ | refine blk_drew ?_ | refine blk_alloc ?_ _)); refine blk_far ?_ NB136_143.out _; (with_reducible repeat (first | refine blk_drewN ?_ _ | refine blk_drew ?_ | refine blk_alloc ?_ _)); refine blk_far ?_ NB136_143.out _; (with_reducible repeat (first | refine blk_drewN ?_ _ | refine blk_drew ?_ | refine blk_alloc ?_ _)); refine blk_far ?_ NB136_143.out _; (with_reducible repeat (first | refine blk_drewN ?_ _ | refine blk_drew ?_ | refine blk_alloc ?_ _)); refine blk_far ?_ NB136_143.out _; (with_reducible repeat (first | refine blk_drewN ?_ _ | refine blk_drew ?_ | refine blk_alloc ?_ _)); exact BK136.out⟩, ⟨by repeat (first | (with_reducible first | exact HB.out | apply below_alloc | apply pw_below_drewN | apply below_drew1 | refine below_set ?_ GE127.out | refine below_set ?_ GE128.out | refine below_set ?_ GE136.out | refine below_set ?_ GE143.out) | exact HB.out)⟩⟩
              ·
               rw [if_neg c50] at H
               exact absurd H (by simp)
             ·
              rw [if_neg c49] at H
              exact absurd H (by simp)
            ·
             rw [if_neg c48] at H
             have c48b0 : decide (x66_2 < (x137001_18.length : Int)) = false := decide_eq_false c48
             clear c48
             replace H := Option.bind_eq_some_iff.mp H
             obtain ⟨⟨t144, t147⟩, A560, H⟩ := H
             replace H : (some (t130, x137001_18, t144, 0)) = some (r1, r2, r3, r4) := H
             have A56 := Aside0.mk A560
             clear A560
             simp only [Option.some.injEq, Prod.mk.injEq] at H
             obtain ⟨rfl, rfl, rfl, rfl⟩ := H
             have hnb57 := NB127_128.out
             have hnc57 := NB128_127.out
             have hnb58 := NB127_136.out
             have hnc58 := NB136_127.out
             have hcz59_0 : wr.cell? ⟨gb127, 0, none⟩ = some (.slice (some ad132) l0_0.length c0_0) := (blk_cell BK127.out 0).trans rfl
             have hcz59_1 : wr.cell? ⟨gb127, 1, none⟩ = some (.int .i64 a0_1) := (blk_cell BK127.out 1).trans rfl
             have hcz59_2 : wr.cell? ⟨gb127, 2, none⟩ = some (.int .i64 a0_2) := (blk_cell BK127.out 2).trans rfl
             have hcz59_3 : wr.cell? ⟨gb127, 3, none⟩ = some (.string a0_3) := (blk_cell BK127.out 3).trans rfl
             have hfz59_0 := blk_frozen BK127.out 0
             have hfz59_1 := blk_frozen BK127.out 1
             have hfz59_2 := blk_frozen BK127.out 2
             have hfz59_3 := blk_frozen BK127.out 3
             go_wp2_with (first | (go_at_call 20; (with_reducible refine (version_Overlap.calls k2 _ _ l0_0 a0_1 a0_2 a0_3 (wrap64 (t130 + 1)) x10_2 x11_2 t144 t147 _ ?side1 ?side2 A56.out).mono ?_); (case side1 => repeat (first | exact (Kd.C_below HR0_0.out HB.out) | (with_reducible refine Kd.C_alloc ?_ _) | (with_reducible refine Kd.C_drewN ?_ _) | (with_reducible refine Kd.C_drew ?_))); (case side2 => exact HC0_0.out); rintro e w60 ⟨v145, rfl, ho0, hb⟩; replace ho0 := Kc.R_of ho0; have n0_ := Aside0.mk (Kc.R_elder' (by (with_reducible repeat (first | apply Kc.R_alloc | apply Kc.R_drewN | apply Kc.R_drew)); exact HO_64.out) (Kc.R_base ho0) hb); have n1_ := Aside0.mk (Kc.R_elder' (by (with_reducible repeat (first | apply Kc.R_alloc | apply Kc.R_drewN | apply Kc.R_drew)); exact HO_137001.out) (Kc.R_base ho0) hb); have n2_ := Aside0.mk (Kc.R_lower (Kc.R_new' (Kc.R_new' ho0 (Kc.R_lt (by (with_reducible repeat (first | apply Kc.R_alloc | apply Kc.R_drewN | apply Kc.R_drew)); exact HO_64.out))) (Kc.R_lt (by (with_reducible repeat (first | apply Kc.R_alloc | apply Kc.R_drewN | apply Kc.R_drew)); exact HO_137001.out))) (below_size (by repeat (first | (with_reducible first | exact HB.out | apply below_alloc | apply pw_below_drewN | apply below_drew1 | refine below_set ?_ GE127.out | refine below_set ?_ GE128.out | refine below_set ?_ GE136.out) | exact HB.out)))); have n3_ := Aside0.mk (blk_below (g := gb127) (o := .cells #[.slice (some ad132) l0_0.length c0_0, .int .i64 a0_1, .int .i64 a0_2, .string a0_3] 24 (0, 0)) (by (with_reducible repeat (first | refine blk_drewN ?_ _ | refine blk_drew ?_ | refine blk_alloc ?_ _)); exact BK127.out) hb); have n4_ := Aside0.mk (blk_below (g := gb128) (o := .cells #[.int .i64 0, .slice none 0 0, .slice none 0 0] 31 (0, 0)) (by (with_reducible repeat (first | refine blk_drewN ?_ _ | refine blk_drew ?_ | refine blk_alloc ?_ _)); exact BK128.out) hb); have n5_ := Aside0.mk (blk_below (g := gb136) (o := .cells #[.int .i64 t130, .slice (some ad140) x137001_18.length co47, .slice none 0 0] 31 (0, 0)) (by (with_reducible repeat (first | refine blk_drewN ?_ _ | refine blk_drew ?_ | refine blk_alloc ?_ _)); exact BK136.out) hb); have n6_ := Aside0.mk (below_step (by repeat (first | (with_reducible first | exact HB.out | apply below_alloc | apply pw_below_drewN | apply below_drew1 | refine below_set ?_ GE127.out | refine below_set ?_ GE128.out | refine below_set ?_ GE136.out) | exact HB.out)) hb); clear HO_64; clear HO_137001; clear BK127; clear BK128; clear BK136; clear HB; have HO_64 := n0_; have HO_137001 := n1_; have HO146 := n2_; have BK127 := n3_; have BK128 := n4_; have BK136 := n5_; have HB := n6_; clear n0_ n1_ n2_ n3_ n4_ n5_ n6_; (try clear hb); (try clear hb2); (try clear hk); (try clear hi); (try clear ho0); obtain ⟨Ao61, co61, eo61⟩ := Kc.R_slice HO146.out; subst eo61; have hnb62 := NB136_128.out; have hnc62 := NB128_136.out; have hcz63_0 : w60.cell? ⟨gb136, 0, none⟩ = some (.int .i64 t130) := (blk_cell BK136.out 0).trans rfl; have hcz63_1 : w60.cell? ⟨gb136, 1, none⟩ = some (.slice (some ad140) x137001_18.length co47) := (blk_cell BK136.out 1).trans rfl; have hcz63_2 : w60.cell? ⟨gb136, 2, none⟩ = some (.slice none 0 0) := (blk_cell BK136.out 2).trans rfl; have hfz63_0 := blk_frozen BK136.out 0; have hfz63_1 := blk_frozen BK136.out 1; have hfz63_2 := blk_frozen BK136.out 2; have hcz64_0 : w60.cell? ⟨gb128, 0, none⟩ = some (.int .i64 0) := (blk_cell BK128.out 0).trans rfl; have hcz64_1 : w60.cell? ⟨gb128, 1, none⟩ = some (.slice none 0 0) := (blk_cell BK128.out 1).trans rfl; have hcz64_2 : w60.cell? ⟨gb128, 2, none⟩ = some (.slice none 0 0) := (blk_cell BK128.out 2).trans rfl; have hfz64_0 := blk_frozen BK128.out 0; have hfz64_1 := blk_frozen BK128.out 1; have hfz64_2 := blk_frozen BK128.out 2))
             repeat (go_quiet (first | (go_at_call 20; (with_reducible refine (version_Overlap.calls k2 _ _ l0_0 a0_1 a0_2 a0_3 (wrap64 (t130 + 1)) x10_2 x11_2 t144 t147 _ ?side1 ?side2 A56.out).mono ?_); (case side1 => repeat (first | exact (Kd.C_below HR0_0.out HB.out) | (with_reducible refine Kd.C_alloc ?_ _) | (with_reducible refine Kd.C_drewN ?_ _) | (with_reducible refine Kd.C_drew ?_))); (case side2 => exact HC0_0.out); rintro e w60 ⟨v145, rfl, ho0, hb⟩; have n0_ := Aside0.mk (Kc.R_elder' (by (with_reducible repeat (first | apply Kc.R_alloc | apply Kc.R_drewN | apply Kc.R_drew)); exact HO_64.out) (Kc.R_base ho0) hb); have n1_ := Aside0.mk (Kc.R_elder' (by (with_reducible repeat (first | apply Kc.R_alloc | apply Kc.R_drewN | apply Kc.R_drew)); exact HO_137001.out) (Kc.R_base ho0) hb); have n2_ := Aside0.mk (Kc.R_lower (Kc.R_new' (Kc.R_new' ho0 (Kc.R_lt (by (with_reducible repeat (first | apply Kc.R_alloc | apply Kc.R_drewN | apply Kc.R_drew)); exact HO_64.out))) (Kc.R_lt (by (with_reducible repeat (first | apply Kc.R_alloc | apply Kc.R_drewN | apply Kc.R_drew)); exact HO_137001.out))) (below_size (by repeat (first | (with_reducible first | exact HB.out | apply below_alloc | apply pw_below_drewN | apply below_drew1 | refine below_set ?_ GE127.out | refine below_set ?_ GE128.out | refine below_set ?_ GE136.out) | exact HB.out)))); have n3_ := Aside0.mk (blk_below (g := gb127) (o := .cells #[.slice (some ad132) l0_0.length c0_0, .int .i64 a0_1, .int .i64 a0_2, .string a0_3] 24 (0, 0)) (by (with_reducible repeat (first | refine blk_drewN ?_ _ | refine blk_drew ?_ | refine blk_alloc ?_ _)); exact BK127.out) hb); have n4_ := Aside0.mk (blk_below (g := gb128) (o := .cells #[.int .i64 0, .slice none 0 0, .slice none 0 0] 31 (0, 0)) (by (with_reducible repeat (first | refine blk_drewN ?_ _ | refine blk_drew ?_ | refine blk_alloc ?_ _)); exact BK128.out) hb); have n5_ := Aside0.mk (blk_below (g := gb136) (o := .cells #[.int .i64 t130, .slice (some ad140) x137001_18.length co47, .slice none 0 0] 31 (0, 0)) (by (with_reducible repeat (first | refine blk_drewN ?_ _ | refine blk_drew ?_ | refine blk_alloc ?_ _)); exact BK136.out) hb); have n6_ := Aside0.mk (below_step (by repeat (first | (with_reducible first | exact HB.out | apply below_alloc | apply pw_below_drewN | apply below_drew1 | refine below_set ?_ GE127.out | refine below_set ?_ GE128.out | refine below_set ?_ GE136.out) | exact HB.out)) hb); clear HO_64; clear HO_137001; clear BK127; clear BK128; clear BK136; clear HB; have HO_64 := n0_; have HO_137001 := n1_; have HO146 := n2_; have BK127 := n3_; have BK128 := n4_; have BK136 := n5_; have HB := n6_; clear n0_ n1_ n2_ n3_ n4_ n5_ n6_; (try clear hb); (try clear hb2); (try clear hk); (try clear hi); (try clear ho0); obtain ⟨Ao61, co61, eo61⟩ := Kc.R_slice HO146.out; subst eo61; have hnb62 := NB136_128.out; have hnc62 := NB128_136.out; have hcz63_0 : w60.cell? ⟨gb136, 0, none⟩ = some (.int .i64 t130) := (blk_cell BK136.out 0).trans rfl; have hcz63_1 : w60.cell? ⟨gb136, 1, none⟩ = some (.slice (some ad140) x137001_18.length co47) := (blk_cell BK136.out 1).trans rfl; have hcz63_2 : w60.cell? ⟨gb136, 2, none⟩ = some (.slice none 0 0) := (blk_cell BK136.out 2).trans rfl; have hfz63_0 := blk_frozen BK136.out 0; have hfz63_1 := blk_frozen BK136.out 1; have hfz63_2 := blk_frozen BK136.out 2; have hcz64_0 : w60.cell? ⟨gb128, 0, none⟩ = some (.int .i64 0) := (blk_cell BK128.out 0).trans rfl; have hcz64_1 : w60.cell? ⟨gb128, 1, none⟩ = some (.slice none 0 0) := (blk_cell BK128.out 1).trans rfl; have hcz64_2 : w60.cell? ⟨gb128, 2, none⟩ = some (.slice none 0 0) := (blk_cell BK128.out 2).trans rfl; have hfz64_0 := blk_frozen BK128.out 0; have hfz64_1 := blk_frozen BK128.out 1; have hfz64_2 := blk_frozen BK128.out 2)); try go_wp2_with (first | (go_at_call 20; (with_reducible refine (version_Overlap.calls k2 _ _ l0_0 a0_1 a0_2 a0_3 (wrap64 (t130 + 1)) x10_2 x11_2 t144 t147 _ ?side1 ?side2 A56.out).mono ?_); (case side1 => repeat (first | exact (Kd.C_below HR0_0.out HB.out) | (with_reducible refine Kd.C_alloc ?_ _) | (with_reducible refine Kd.C_drewN ?_ _) | (with_reducible refine Kd.C_drew ?_))); (case side2 => exact HC0_0.out); rintro e w60 ⟨v145, rfl, ho0, hb⟩; have n0_ := Aside0.mk (Kc.R_elder' (by (with_reducible repeat (first | apply Kc.R_alloc | apply Kc.R_drewN | apply Kc.R_drew)); exact HO_64.out) (Kc.R_base ho0) hb); have n1_ := Aside0.mk (Kc.R_elder' (by (with_reducible repeat (first | apply Kc.R_alloc | apply Kc.R_drewN | apply Kc.R_drew)); exact HO_137001.out) (Kc.R_base ho0) hb); have n2_ := Aside0.mk (Kc.R_lower (Kc.R_new' (Kc.R_new' ho0 (Kc.R_lt (by (with_reducible repeat (first | apply Kc.R_alloc | apply Kc.R_drewN | apply Kc.R_drew)); exact HO_64.out))) (Kc.R_lt (by (with_reducible repeat (first | apply Kc.R_alloc | apply Kc.R_drewN | apply Kc.R_drew)); exact HO_137001.out))) (below_size (by repeat (first | (with_reducible first | exact HB.out | apply below_alloc | apply pw_below_drewN | apply below_drew1 | refine below_set ?_ GE127.out | refine below_set ?_ GE128.out | refine below_set ?_ GE136.out) | exact HB.out)))); have n3_ := Aside0.mk (blk_below (g := gb127) (o := .cells #[.slice (some ad132) l0_0.length c0_0, .int .i64 a0_1, .int .i64 a0_2, .string a0_3] 24 (0, 0)) (by (with_reducible repeat (first | refine blk_drewN ?_ _ | refine blk_drew ?_ | refine blk_alloc ?_ _)); exact BK127.out) hb); have n4_ := Aside0.mk (blk_below (g := gb128) (o := .cells #[.int .i64 0, .slice none 0 0, .slice none 0 0] 31 (0, 0)) (by (with_reducible repeat (first | refine blk_drewN ?_ _ | refine blk_drew ?_ | refine blk_alloc ?_ _)); exact BK128.out) hb); have n5_ := Aside0.mk (blk_below (g := gb136) (o := .cells #[.int .i64 t130, .slice (some ad140) x137001_18.length co47, .slice none 0 0] 31 (0, 0)) (by (with_reducible repeat (first | refine blk_drewN ?_ _ | refine blk_drew ?_ | refine blk_alloc ?_ _)); exact BK136.out) hb); have n6_ := Aside0.mk (below_step (by repeat (first | (with_reducible first | exact HB.out | apply below_alloc | apply pw_below_drewN | apply below_drew1 | refine below_set ?_ GE127.out | refine below_set ?_ GE128.out | refine below_set ?_ GE136.out) | exact HB.out)) hb); clear HO_64; clear HO_137001; clear BK127; clear BK128; clear BK136; clear HB; have HO_64 := n0_; have HO_137001 := n1_; have HO146 := n2_; have BK127 := n3_; have BK128 := n4_; have BK136 := n5_; have HB := n6_; clear n0_ n1_ n2_ n3_ n4_ n5_ n6_; (try clear hb); (try clear hb2); (try clear hk); (try clear hi); (try clear ho0); obtain ⟨Ao61, co61, eo61⟩ := Kc.R_slice HO146.out; subst eo61; have hnb62 := NB136_128.out; have hnc62 := NB128_136.out; have hcz63_0 : w60.cell? ⟨gb136, 0, none⟩ = some (.int .i64 t130) := (blk_cell BK136.out 0).trans rfl; have hcz63_1 : w60.cell? ⟨gb136, 1, none⟩ = some (.slice (some ad140) x137001_18.length co47) := (blk_cell BK136.out 1).trans rfl; have hcz63_2 : w60.cell? ⟨gb136, 2, none⟩ = some (.slice none 0 0) := (blk_cell BK136.out 2).trans rfl; have hfz63_0 := blk_frozen BK136.out 0; have hfz63_1 := blk_frozen BK136.out 1; have hfz63_2 := blk_frozen BK136.out 2; have hcz64_0 : w60.cell? ⟨gb128, 0, none⟩ = some (.int .i64 0) := (blk_cell BK128.out 0).trans rfl; have hcz64_1 : w60.cell? ⟨gb128, 1, none⟩ = some (.slice none 0 0) := (blk_cell BK128.out 1).trans rfl; have hcz64_2 : w60.cell? ⟨gb128, 2, none⟩ = some (.slice none 0 0) := (blk_cell BK128.out 2).trans rfl; have hfz64_0 := blk_frozen BK128.out 0; have hfz64_1 := blk_frozen BK128.out 1; have hfz64_2 := blk_frozen BK128.out 2)))
             refine bodyPost_ret (results_ct rfl _ _ gb128 31 #[.int .i64 t130, .slice (some ad140) x137001_18.length co47, .slice Ao61 t144.length co61] (0, 0) _ rfl (by (with_reducible repeat (first | refine blk_drewN ?_ _ | refine blk_drew ?_ | refine blk_alloc ?_ _)); refine blk_put (cs := #[.int .i64 t130, .slice (some ad140) x137001_18.length co47, .slice none 0 0]) ?_ 2 _ rfl; (with_reducible repeat (first | refine blk_drewN ?_ _ | refine blk_drew ?_ | refine blk_alloc ?_ _)); refine blk_put (cs := #[.int .i64 t130, .slice none 0 0, .slice none 0 0]) ?_ 1 _ rfl; (with_reducible repeat (first | refine blk_drewN ?_ _ | refine blk_drew ?_ | refine blk_alloc ?_ _)); refine blk_put (cs := #[.int .i64 0, .slice none 0 0, .slice none 0 0]) ?_ 0 _ rfl; (with_reducible repeat (first | refine blk_drewN ?_ _ | refine blk_drew ?_ | refine blk_alloc ?_ _)); refine blk_far ?_ NB128_136.out _; (with_reducible repeat (first | refine blk_drewN ?_ _ | refine blk_drew ?_ | refine blk_alloc ?_ _)); exact BK128.out) Try.underlying31 rfl (by kernel_rfl)) rfl ?_
             exact ⟨_, _, by first | rfl | (simp [errW_none, errW_some] <;> rfl) | (simp [*, errW_none, errW_some] <;> rfl) | exact ret_ie _ | (simp [*, errW_none, errW_some, bne]; done), by (with_reducible repeat (first | apply Kc.R_alloc | apply Kc.R_drewN | apply Kc.R_drew)); exact Kc.R_mono (Kc.R_far (p := ⟨gb128, 2, none⟩) (Kc.R_far (p := ⟨gb128, 1, none⟩) (Kc.R_far (p := ⟨gb128, 0, none⟩) (Kc.R_far (p := ⟨gb136, 2, none⟩) (Kc.R_types (Kc.R_types HO_137001.out BK136.out (by decide)) BK128.out (by decide)) (fun _ hk => hk.1.2) (.slice Ao61 t144.length co61)) (fun _ hk => hk.2) (.int .i64 t130)) (fun _ hk => hk.2) (.slice (some ad140) x137001_18.length co47)) (fun _ hk => hk.2) (.slice Ao61 t144.length co61)) (fun _ hk => hk.1.1.2), by (with_reducible repeat (first | apply Kc.R_alloc | apply Kc.R_drewN | apply Kc.R_drew)); exact Kc.R_mono (Kc.R_far (p := ⟨gb128, 2, none⟩) (Kc.R_far (p := ⟨gb128, 1, none⟩) (Kc.R_far (p := ⟨gb128, 0, none⟩) (Kc.R_far (p := ⟨gb136, 2, none⟩) (Kc.R_types (Kc.R_types HO146.out BK136.out (by decide)) BK128.out (by decide)) (fun _ hk => hk.1.2) (.slice Ao61 t144.length co61)) (fun _ hk => hk.2) (.int .i64 t130)) (fun _ hk => hk.2) (.slice (some ad140) x137001_18.length co47)) (fun _ hk => hk.2) (.slice Ao61 t144.length co61)) (fun _ hk => hk.1.1.2), by repeat (first | (with_reducible first | exact HB.out | apply below_alloc | apply pw_below_drewN | apply below_drew1 | refine below_set ?_ GE127.out | refine below_set ?_ GE128.out | refine below_set ?_ GE136.out) | exact HB.out)⟩
         ·
          rw [if_neg c43] at H
          exact absurd H (by simp)
      ·
       rw [if_neg c17] at H
       exact absurd H (by simp)
     ·
      rw [if_neg c16] at H
      exact absurd H (by simp)
 ·
  rw [if_neg c3] at H
  have c3b0 : (t129 == 0) = false := beq_eq_false_iff_ne.mpr c3
  have c3b1 : (t129 != 0) = true := bne_iff_ne.mpr c3
  simp only [Option.some.injEq, Prod.mk.injEq] at H
  obtain ⟨rfl, rfl, rfl, rfl⟩ := H
  go_enter Try.func8, Try.ntmps8
  go_wp2_with (first | ((with_reducible refine gate_dst (N := 1) rfl ?_); refine box_event ?hg (N := 1) ?hd (cs := #[.slice A0_0 l0_0.length c0_0, .int .i64 a0_1, .int .i64 a0_2, .string a0_3]) (t := 24) ?hr ?_; (case hd => rfl); (case hg => rfl); (case hr => first | (go_simp; done) | (go_simp; rfl)); intro gb127 hg w65 hbox hb; have n0_ := Aside0.mk (below_step (by repeat (first | (with_reducible first | exact HB.out | apply below_alloc | apply pw_below_drewN | apply below_drew1) | exact HB.out)) hb); have n1_ := Aside0.mk (hbox); have n2_ := Aside0.mk ((by rw [hg]; exact (below_size (by repeat (first | (with_reducible first | exact HB.out | apply below_alloc | apply pw_below_drewN | apply below_drew1) | exact HB.out))) : w.heap.size ≤ gb127)); have n3_ := Aside0.mk ((by rw [hg]; exact (below_size (by repeat (first | (with_reducible first | exact HB.out | apply below_alloc | apply pw_below_drewN | apply below_drew1) | exact HB.out))) : w.heap.size ≤ gb127)); clear HB; have HB := n0_; have BK127 := n1_; have GW127 := n2_; have GE127 := n3_; clear n0_ n1_ n2_ n3_; clear hb hbox hg) | ((with_reducible refine gate_dst (N := 2) rfl ?_); refine box_event ?hg (N := 2) ?hd (cs := #[.int .i64 0, .slice none 0 0, .slice none 0 0]) (t := 31) ?hr ?_; (case hd => rfl); (case hg => rfl); (case hr => first | (go_simp; done) | (go_simp; rfl)); intro gb128 hg w66 hbox hb; have n0_ := Aside0.mk (blk_below (g := gb127) (o := .cells #[.slice A0_0 l0_0.length c0_0, .int .i64 a0_1, .int .i64 a0_2, .string a0_3] 24 (0, 0)) (by (with_reducible repeat (first | refine blk_drewN ?_ _ | refine blk_drew ?_ | refine blk_alloc ?_ _)); exact BK127.out) hb); have n1_ := Aside0.mk (below_step (by repeat (first | (with_reducible first | exact HB.out | apply below_alloc | apply pw_below_drewN | apply below_drew1 | refine below_set ?_ GE127.out) | exact HB.out)) hb); have n2_ := Aside0.mk (hbox); have n3_ := Aside0.mk ((by rw [hg]; exact (below_size (by repeat (first | (with_reducible first | exact HB.out | apply below_alloc | apply pw_below_drewN | apply below_drew1 | refine below_set ?_ GE127.out) | exact HB.out))) : w.heap.size ≤ gb128)); have n4_ := Aside0.mk ((by rw [hg]; exact (below_size (by repeat (first | (with_reducible first | exact HB.out | apply below_alloc | apply pw_below_drewN | apply below_drew1 | refine below_set ?_ GE127.out) | exact HB.out))) : w.heap.size ≤ gb128)); have n5_ := Aside0.mk ((by rw [hg]; exact Nat.ne_of_lt (blk_lt (g := gb127) (o := .cells #[.slice A0_0 l0_0.length c0_0, .int .i64 a0_1, .int .i64 a0_2, .string a0_3] 24 (0, 0)) (by (with_reducible repeat (first | refine blk_drewN ?_ _ | refine blk_drew ?_ | refine blk_alloc ?_ _)); exact BK127.out)) : gb127 ≠ gb128)); have n6_ := Aside0.mk ((by rw [hg]; exact Nat.ne_of_gt (blk_lt (g := gb127) (o := .cells #[.slice A0_0 l0_0.length c0_0, .int .i64 a0_1, .int .i64 a0_2, .string a0_3] 24 (0, 0)) (by (with_reducible repeat (first | refine blk_drewN ?_ _ | refine blk_drew ?_ | refine blk_alloc ?_ _)); exact BK127.out)) : gb128 ≠ gb127)); clear BK127; clear HB; have BK127 := n0_; have HB := n1_; have BK128 := n2_; have GW128 := n3_; have GE128 := n4_; have NB127_128 := n5_; have NB128_127 := n6_; clear n0_ n1_ n2_ n3_ n4_ n5_ n6_; clear hb hbox hg; have hnb67 := NB127_128.out; have hnc67 := NB128_127.out; have hcz68_0 : w66.cell? ⟨gb127, 0, none⟩ = some (.slice A0_0 l0_0.length c0_0) := (blk_cell BK127.out 0).trans rfl; have hcz68_1 : w66.cell? ⟨gb127, 1, none⟩ = some (.int .i64 a0_1) := (blk_cell BK127.out 1).trans rfl; have hcz68_2 : w66.cell? ⟨gb127, 2, none⟩ = some (.int .i64 a0_2) := (blk_cell BK127.out 2).trans rfl; have hcz68_3 : w66.cell? ⟨gb127, 3, none⟩ = some (.string a0_3) := (blk_cell BK127.out 3).trans rfl; have hfz68_0 := blk_frozen BK127.out 0; have hfz68_1 := blk_frozen BK127.out 1; have hfz68_2 := blk_frozen BK127.out 2; have hfz68_3 := blk_frozen BK127.out 3) | (go_at_call 22; (with_reducible refine (version_Check.calls k _ _ l0_0 a0_1 a0_2 a0_3 t129 _ ?side1 ?side2 A2.out).mono ?_); (case side1 => repeat (first | exact (Kd.C_below HR0_0.out HB.out) | (with_reducible refine Kd.C_alloc ?_ _) | (with_reducible refine Kd.C_drewN ?_ _) | (with_reducible refine Kd.C_drew ?_))); (case side2 => exact HC0_0.out); rintro e w69 ⟨rfl, hb⟩; have n0_ := Aside0.mk (blk_below (g := gb127) (o := .cells #[.slice A0_0 l0_0.length c0_0, .int .i64 a0_1, .int .i64 a0_2, .string a0_3] 24 (0, 0)) (by (with_reducible repeat (first | refine blk_drewN ?_ _ | refine blk_drew ?_ | refine blk_alloc ?_ _)); exact BK127.out) hb); have n1_ := Aside0.mk (blk_below (g := gb128) (o := .cells #[.int .i64 0, .slice none 0 0, .slice none 0 0] 31 (0, 0)) (by (with_reducible repeat (first | refine blk_drewN ?_ _ | refine blk_drew ?_ | refine blk_alloc ?_ _)); exact BK128.out) hb); have n2_ := Aside0.mk (below_step (by repeat (first | (with_reducible first | exact HB.out | apply below_alloc | apply pw_below_drewN | apply below_drew1 | refine below_set ?_ GE127.out | refine below_set ?_ GE128.out) | exact HB.out)) hb); clear BK127; clear BK128; clear HB; have BK127 := n0_; have BK128 := n1_; have HB := n2_; clear n0_ n1_ n2_; (try clear hb); (try clear hb2); (try clear hk); (try clear hi); have hcz70_0 : w69.cell? ⟨gb128, 0, none⟩ = some (.int .i64 0) := (blk_cell BK128.out 0).trans rfl; have hcz70_1 : w69.cell? ⟨gb128, 1, none⟩ = some (.slice none 0 0) := (blk_cell BK128.out 1).trans rfl; have hcz70_2 : w69.cell? ⟨gb128, 2, none⟩ = some (.slice none 0 0) := (blk_cell BK128.out 2).trans rfl; have hfz70_0 := blk_frozen BK128.out 0; have hfz70_1 := blk_frozen BK128.out 1; have hfz70_2 := blk_frozen BK128.out 2))
  refine bodyPost_ret (results_ct rfl _ _ gb128 31 #[.int .i64 0, .slice none 0 0, .slice none 0 0] (0, 0) _ rfl (by (with_reducible repeat (first | refine blk_drewN ?_ _ | refine blk_drew ?_ | refine blk_alloc ?_ _)); refine blk_put (cs := #[.int .i64 0, .slice none 0 0, .slice none 0 0]) ?_ 2 _ rfl; (with_reducible repeat (first | refine blk_drewN ?_ _ | refine blk_drew ?_ | refine blk_alloc ?_ _)); refine blk_put (cs := #[.int .i64 0, .slice none 0 0, .slice none 0 0]) ?_ 1 _ rfl; (with_reducible repeat (first | refine blk_drewN ?_ _ | refine blk_drew ?_ | refine blk_alloc ?_ _)); refine blk_put (cs := #[.int .i64 0, .slice none 0 0, .slice none 0 0]) ?_ 0 _ rfl; (with_reducible repeat (first | refine blk_drewN ?_ _ | refine blk_drew ?_ | refine blk_alloc ?_ _)); exact BK128.out) Try.underlying31 rfl (by kernel_rfl)) rfl ?_
  exact ⟨_, _, by first | rfl | (simp [errW_none, errW_some] <;> rfl) | (simp [*, errW_none, errW_some] <;> rfl) | exact ret_ie _ | (simp [*, errW_none, errW_some, bne]; done), by first | exact Kc.R_nil _ _ _ _ _ | exact Kd.N_nil _ _ _ _ _ | exact Kd.V_nil _ _ _ _ _ | exact Kd.Q_nil _ _ _ _ _ | exact Kd.S_nil _ _ _ _ _, by first | exact Kc.R_nil _ _ _ _ _ | exact Kd.N_nil _ _ _ _ _ | exact Kd.V_nil _ _ _ _ _ | exact Kd.Q_nil _ _ _ _ _ | exact Kd.S_nil _ _ _ _ _, by repeat (first | (with_reducible first | exact HB.out | apply below_alloc | apply pw_below_drewN | apply below_drew1 | refine below_set ?_ GE127.out | refine below_set ?_ GE128.out) | exact HB.out)⟩

end Go.Proofs.Ytgeeignipammhaa.R

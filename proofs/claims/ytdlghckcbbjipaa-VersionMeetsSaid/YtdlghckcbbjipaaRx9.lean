/- Contracts of Go functions and what they come to, over the translation of this seat: made by a program of this session (print2.py). -/
import Derived.Test.YtdlghckcbbjipaaOrd
import Derived.Test.YtdlghckcbbjipaaMx
import Derived.Test.YtdlghckcbbjipaaRx0
import Derived.Test.YtdlghckcbbjipaaRx4
import Derived.Test.YtdlghckcbbjipaaRx7
import Derived.Test.YtdlghckcbbjipaaRx8
namespace Go.Proofs.Ytdlghckcbbjipaa.R
open Go.RowKit Go.Proofs.Ytdlghckcbbjipaa.Co Go.Proofs.Ytdlghckcbbjipaa.Mx Go.Proofs.Ytdlghckcbbjipaa.Ret Go.Proofs.Ytdlghckcbbjipaa.Plain Go.Proofs.YtdlghckcbbjipaaW.PrintWords Go.Proofs.YtdlghckcbbjipaaW.PrintLast Go.Proofs.YtdlghckcbbjipaaW.PrintMore
attribute [local go_sem] max2_str min2_str max2_int min2_int max_two min_two max_three min_three max_four min_four   -- for this text's walks alone
set_option linter.unusedVariables false
set_option linter.unusedSimpArgs false

/-! ### millhandlaw16_VersionMeets: function 3 -/
mutual
def millhandlaw16_VersionMeets.j0 : Nat → Int → ByteArray → ByteArray → ByteArray → Bool → Bool → List (List (S32)) → Int → Int → ByteArray → Option (Bool)
 | 0, _, _, _, _, _, _, _, _, _, _ => none
 | k + 1, x1, x2, x3, x4, x11, x38, x232000, x232001, x232002, x232003 => if x38 = true then (some x11) else ((version_Overlap.f k x232000 x232001 x232002 x232003 x1 x2 x3).bind fun bt234 => (if bt234.2 = 0 then (millhandlaw16_VersionMeets.l0 k x1 x2 x3 x4 bt234.1 0 x232000 x232001 x232002 x232003) else (some ((bt234.1.length : Int) == 0))))
def millhandlaw16_VersionMeets.l0 : Nat → Int → ByteArray → ByteArray → ByteArray → List (S32) → Int → List (List (S32)) → Int → Int → ByteArray → Option (Bool)
 | 0, _, _, _, _, _, _, _, _, _, _ => none
 | k + 1, x1, x2, x3, x4, x12, x14, x232000, x232001, x232002, x232003 => if 0 ≤ x1 then (if x1 < (x232000.length : Int) then (if x14 < ((rd_L3 x232000 x1).length : Int) then (if 0 ≤ x14 then (if ((Op.bytesLess x4.toList x2.toList) = true) then (millhandlaw16_VersionMeets.l0 k x1 x2 x3 x4 x12 (wrap64 (x14 + 1)) x232000 x232001 x232002 x232003) else (if ((Op.bytesLess x3.toList x4.toList) = true) then (millhandlaw16_VersionMeets.l0 k x1 x2 x3 x4 x12 (wrap64 (x14 + 1)) x232000 x232001 x232002 x232003) else (if ((Op.bytesLess x4.toList (((rd_T32 (rd_L3 x232000 x1) x14).f3).toList)) = true) then (millhandlaw16_VersionMeets.l0 k x1 x2 x3 x4 x12 (wrap64 (x14 + 1)) x232000 x232001 x232002 x232003) else (if ((Op.bytesLess (((rd_T32 (rd_L3 x232000 x1) x14).f4).toList) x4.toList) = true) then (millhandlaw16_VersionMeets.l0 k x1 x2 x3 x4 x12 (wrap64 (x14 + 1)) x232000 x232001 x232002 x232003) else ((millhandlaw16_in.f k x12 ((rd_T32 (rd_L3 x232000 x1) x14).f0) ((rd_T32 (rd_L3 x232000 x1) x14).f1) ((rd_T32 (rd_L3 x232000 x1) x14).f2) ((rd_T32 (rd_L3 x232000 x1) x14).f3) ((rd_T32 (rd_L3 x232000 x1) x14).f4)).bind fun t242 => (if t242 = true then (millhandlaw16_VersionMeets.l0 k x1 x2 x3 x4 x12 (wrap64 (x14 + 1)) x232000 x232001 x232002 x232003) else (some false))))))) else (none)) else (millhandlaw16_VersionMeets.l1 k x1 x2 x3 x12 0 x232000 x232001 x232002 x232003)) else (none)) else (none)
def millhandlaw16_VersionMeets.l1 : Nat → Int → ByteArray → ByteArray → List (S32) → Int → List (List (S32)) → Int → Int → ByteArray → Option (Bool)
 | 0, _, _, _, _, _, _, _, _, _ => none
 | k + 1, x1, x2, x3, x12, x16, x232000, x232001, x232002, x232003 => if x16 < (x12.length : Int) then (if ((Op.bytesLess x3.toList x2.toList) = true) then (if 0 ≤ x16 then ((millhandlaw16_at.f k x232000 x232001 x232002 x232003 ((rd_T32 x12 x16).f0) ((rd_T32 x12 x16).f1) ((rd_T32 x12 x16).f2) ((rd_T32 x12 x16).f3) ((rd_T32 x12 x16).f4)).bind fun t244 => (if t244 = x1 then (millhandlaw16_VersionMeets.l1 k x1 x2 x3 x12 (wrap64 (x16 + 1)) x232000 x232001 x232002 x232003) else (some false))) else (none)) else (if 0 ≤ x16 then (if (Op.bytesLess ((mnS ((rd_T32 x12 x16).f4) x3).toList) ((mxS ((rd_T32 x12 x16).f3) x2).toList)) = true then (some false) else ((millhandlaw16_at.f k x232000 x232001 x232002 x232003 ((rd_T32 x12 x16).f0) ((rd_T32 x12 x16).f1) ((rd_T32 x12 x16).f2) ((rd_T32 x12 x16).f3) ((rd_T32 x12 x16).f4)).bind fun t248 => (if t248 = x1 then (millhandlaw16_VersionMeets.l1 k x1 x2 x3 x12 (wrap64 (x16 + 1)) x232000 x232001 x232002 x232003) else (some false)))) else (none))) else (some true)
end
def millhandlaw16_VersionMeets.f (k : Nat) (l0_0 : List (List (S32))) (a0_1 : Int) (a0_2 : Int) (a0_3 : ByteArray) (a1 : Int) (a2 : ByteArray) (a3 : ByteArray) (a4 : ByteArray) : Option (Bool) := (millhandlaw16_alive.f k).bind fun t232 => ((millhandref16_Great.f k l0_0 a0_1 a0_2 a0_3).bind fun t233 => (if t233 = true then (millhandlaw16_VersionMeets.j0 k a1 a2 a3 a4 t232 true l0_0 a0_1 a0_2 a0_3) else (if (a2.size : Int) > 1000 then (millhandlaw16_VersionMeets.j0 k a1 a2 a3 a4 t232 true l0_0 a0_1 a0_2 a0_3) else (if (a3.size : Int) > 1000 then (millhandlaw16_VersionMeets.j0 k a1 a2 a3 a4 t232 true l0_0 a0_1 a0_2 a0_3) else (if (a4.size : Int) > 1000 then (millhandlaw16_VersionMeets.j0 k a1 a2 a3 a4 t232 true l0_0 a0_1 a0_2 a0_3) else (millhandlaw16_VersionMeets.j0 k a1 a2 a3 a4 t232 (!t232) l0_0 a0_1 a0_2 a0_3))))))
def millhandlaw16_VersionMeets.T16 : Bool × List (List Nat × List Nat) := (true, [([], []), ([], []), ([0, 1], [0, 1]), ([2], [2]), ([3], [3]), ([3], [3]), ([4, 5, 3], [3, 4, 5]), ([6, 3], [3, 6]), ([7, 3], [3, 7]), ([3], [3]), ([8, 9, 3], [3, 8, 9]), ([3], [3]), ([3], [3]), ([11, 12, 3], [3, 11, 12]), ([13, 3], [3, 13]), ([14, 3], [3, 14]), ([3], [3]), ([15, 16, 3], [3, 15, 16]), ([10, 17, 3], [3, 10, 17]), ([3, 18], [3, 18]), ([19, 3], [19]), ([20], [20]), ([20], [20]), ([20], [20]), ([22, 23, 20], [20, 22, 23]), ([24, 20], [20, 24]), ([21, 25, 20, 20], [20, 21, 25]), ([20], [20]), ([26, 27, 20], [20, 26, 27]), ([20, 28], [20, 28])])
def millhandlaw16_VersionMeets.B16 : List Nat := [0, 0, 3, 7, 15, 15, 63, 127, 255, 15, 1023, 15, 15, 6159, 14351, 30735, 15, 129039, 262143, 524287, 1048575, 2097151, 2097151, 2097151, 14680063, 31457279, 67108863, 2097151, 268435455, 536870911]
theorem millhandlaw16_VersionMeets.tab16 : rtab .any (opsOf Try.f3 16) = millhandlaw16_VersionMeets.T16 := by kernel_rfl
theorem millhandlaw16_VersionMeets.bits16 : waitsOk millhandlaw16_VersionMeets.T16.2 millhandlaw16_VersionMeets.B16 = true := by kernel_rfl
set_option maxHeartbeats 8000000 in
set_option maxRecDepth 100000 in
theorem millhandlaw16_VersionMeets.calls (k : Nat) (A0_0 : Option Addr) (c0_0 : Nat) (l0_0 : List (List (S32))) (a0_1 : Int) (a0_2 : Int) (a0_3 : ByteArray) (a1 : Int) (a2 : ByteArray) (a3 : ByteArray) (a4 : ByteArray) (r : Bool) (w : World) (hr0_0 : Kd.C (Kd.slice 32 k32) w A0_0 l0_0.length l0_0) (hc0_0 : l0_0.length ≤ c0_0) (h : millhandlaw16_VersionMeets.f k l0_0 a0_1 a0_2 a0_3 a1 a2 a3 a4 = some r) :
  Calls Try.prog 3 #[.agg #[.slice A0_0 l0_0.length c0_0, .int .i64 a0_1, .int .i64 a0_2, .string a0_3], .int .i64 a1, .string a2, .string a3, .string a4] w fun e w' => e = .returned (.bool r) ∧ Below w.heap.size w w' := by
 have gq1_ := @Ord.gtr_
 have gq2_ := @Ord.leq_
 have gq3_ := @Ord.geq_
 have hu24 := Try.underlying24
 have hu32 := Try.underlying32
 have HR0_0 := Aside0.mk hr0_0
 have HC0_0 := Aside0.mk hc0_0
 clear hr0_0 hc0_0
 have HB := Aside0.mk (Below.refl w.heap.size w)
 have H : ((millhandlaw16_alive.f k).bind fun t232 => ((millhandref16_Great.f k l0_0 a0_1 a0_2 a0_3).bind fun t233 => (if t233 = true then (millhandlaw16_VersionMeets.j0 k a1 a2 a3 a4 t232 true l0_0 a0_1 a0_2 a0_3) else (if (a2.size : Int) > 1000 then (millhandlaw16_VersionMeets.j0 k a1 a2 a3 a4 t232 true l0_0 a0_1 a0_2 a0_3) else (if (a3.size : Int) > 1000 then (millhandlaw16_VersionMeets.j0 k a1 a2 a3 a4 t232 true l0_0 a0_1 a0_2 a0_3) else (if (a4.size : Int) > 1000 then (millhandlaw16_VersionMeets.j0 k a1 a2 a3 a4 t232 true l0_0 a0_1 a0_2 a0_3) else (millhandlaw16_VersionMeets.j0 k a1 a2 a3 a4 t232 (!t232) l0_0 a0_1 a0_2 a0_3))))))) = some r := h
 clear h
 replace H := Option.bind_eq_some_iff.mp H
 obtain ⟨t232, A60, H⟩ := H
 replace H : ((millhandref16_Great.f k l0_0 a0_1 a0_2 a0_3).bind fun t233 => (if t233 = true then (millhandlaw16_VersionMeets.j0 k a1 a2 a3 a4 t232 true l0_0 a0_1 a0_2 a0_3) else (if (a2.size : Int) > 1000 then (millhandlaw16_VersionMeets.j0 k a1 a2 a3 a4 t232 true l0_0 a0_1 a0_2 a0_3) else (if (a3.size : Int) > 1000 then (millhandlaw16_VersionMeets.j0 k a1 a2 a3 a4 t232 true l0_0 a0_1 a0_2 a0_3) else (if (a4.size : Int) > 1000 then (millhandlaw16_VersionMeets.j0 k a1 a2 a3 a4 t232 true l0_0 a0_1 a0_2 a0_3) else (millhandlaw16_VersionMeets.j0 k a1 a2 a3 a4 t232 (!t232) l0_0 a0_1 a0_2 a0_3)))))) = some r := H
 have A6 := Aside0.mk A60
 clear A60
 have HC7 := Aside0.mk H
 clear H
 go_enter Try.func3, Try.ntmps3
 go_upto_region 2 with (first | ((with_reducible refine gate_dst (N := 5) rfl ?_); (try (refine gate_guard (by rfl) ?_; dsimp only)); refine box_event ?hg (N := 5) ?hd (cs := #[.slice A0_0 l0_0.length c0_0, .int .i64 a0_1, .int .i64 a0_2, .string a0_3]) (t := 24) ?hr ?_; (case hd => rfl); (case hg => rfl); (case hr => first | (go_simp; done) | (go_simp; rfl)); intro gb231 hg w8 hbox hb; have n0_ := Aside0.mk (below_step (by repeat (first | (with_reducible first | exact HB.out | apply below_alloc | apply pw_below_drewN | apply below_drew1) | exact HB.out)) hb); have n1_ := Aside0.mk (hbox); have n2_ := Aside0.mk ((by rw [hg]; exact (below_size (by repeat (first | (with_reducible first | exact HB.out | apply below_alloc | apply pw_below_drewN | apply below_drew1) | exact HB.out))) : w.heap.size ≤ gb231)); have n3_ := Aside0.mk ((by rw [hg]; exact (below_size (by repeat (first | (with_reducible first | exact HB.out | apply below_alloc | apply pw_below_drewN | apply below_drew1) | exact HB.out))) : w.heap.size ≤ gb231)); clear HB; have HB := n0_; have BK231 := n1_; have GW231 := n2_; have GE231 := n3_; clear n0_ n1_ n2_ n3_; clear hb hbox hg) | ((with_reducible refine gate_callee (f := 8) rfl ?_); refine goesL_ (some 17) rfl rfl Try.func8 (by kernel_rfl) rfl #[] rfl (by (try simp only [List.map_toArray, List.map_cons, List.map_nil]); first | done | rfl | (simp only [List.length_drop, List.length_take]; rfl)) ?_; (with_reducible refine (millhandlaw16_alive.calls k  t232 _ A6.out).mono ?_); rintro e w9 ⟨rfl, hb⟩; refine ⟨_, rfl, ?_⟩; have n0_ := Aside0.mk (blk_below (g := gb231) (o := .cells #[.slice A0_0 l0_0.length c0_0, .int .i64 a0_1, .int .i64 a0_2, .string a0_3] 24 (0, 0)) (by (with_reducible repeat (first | refine blk_drewN ?_ _ | refine blk_drew ?_ | refine blk_alloc ?_ _)); exact BK231.out) hb); have n1_ := Aside0.mk (below_step (by repeat (first | (with_reducible first | exact HB.out | apply below_alloc | apply pw_below_drewN | apply below_drew1 | refine below_set ?_ GE231.out) | exact HB.out)) hb); clear BK231; clear HB; have BK231 := n0_; have HB := n1_; clear n0_ n1_; (try clear hb); (try clear hb2); (try clear hk); (try clear hi)))
 (try simp only [Act.put, sa_, s0_, s1_])
 go_cut [38] (fun v38 wc => ∃ (kq : Nat) (x38_6 : Bool), v38 = .bool x38_6 ∧ Aside0 (millhandlaw16_VersionMeets.j0 kq a1 a2 a3 a4 t232 x38_6 l0_0 a0_1 a0_2 a0_3 = some r) ∧ Aside0 (kq ≤ k) ∧ Aside0 (wc.heap[gb231]? = some (.cells #[(.slice A0_0 l0_0.length c0_0), .int .i64 a0_1, .int .i64 a0_2, .string a0_3] 24 (0, 0))) ∧ Aside0 (Below w.heap.size w wc))
 case first =>
  have H := HC7.out
  clear HC7
  replace H := Option.bind_eq_some_iff.mp H
  obtain ⟨t233, A100, H⟩ := H
  replace H : (if t233 = true then (millhandlaw16_VersionMeets.j0 k a1 a2 a3 a4 t232 true l0_0 a0_1 a0_2 a0_3) else (if (a2.size : Int) > 1000 then (millhandlaw16_VersionMeets.j0 k a1 a2 a3 a4 t232 true l0_0 a0_1 a0_2 a0_3) else (if (a3.size : Int) > 1000 then (millhandlaw16_VersionMeets.j0 k a1 a2 a3 a4 t232 true l0_0 a0_1 a0_2 a0_3) else (if (a4.size : Int) > 1000 then (millhandlaw16_VersionMeets.j0 k a1 a2 a3 a4 t232 true l0_0 a0_1 a0_2 a0_3) else (millhandlaw16_VersionMeets.j0 k a1 a2 a3 a4 t232 (!t232) l0_0 a0_1 a0_2 a0_3))))) = some r := H
  have A10 := Aside0.mk A100
  clear A100
  by_cases c11 : t233 = true
  ·
   subst c11
   have H1 : (millhandlaw16_VersionMeets.j0 k a1 a2 a3 a4 t232 true l0_0 a0_1 a0_2 a0_3) = some r := by rw [if_pos rfl] at H; exact H
   clear H
   have H := H1
   clear H1
   have H' := Aside0.mk H
   clear H
   have hcz12_0 : w9.cell? ⟨gb231, 0, none⟩ = some (.slice A0_0 l0_0.length c0_0) := (blk_cell BK231.out 0).trans rfl
   have hcz12_1 : w9.cell? ⟨gb231, 1, none⟩ = some (.int .i64 a0_1) := (blk_cell BK231.out 1).trans rfl
   have hcz12_2 : w9.cell? ⟨gb231, 2, none⟩ = some (.int .i64 a0_2) := (blk_cell BK231.out 2).trans rfl
   have hcz12_3 : w9.cell? ⟨gb231, 3, none⟩ = some (.string a0_3) := (blk_cell BK231.out 3).trans rfl
   have hfz12_0 := blk_frozen BK231.out 0
   have hfz12_1 := blk_frozen BK231.out 1
   have hfz12_2 := blk_frozen BK231.out 2
   have hfz12_3 := blk_frozen BK231.out 3
   go_wp2_with (first | ((with_reducible refine gate_callee (f := 9) rfl ?_); refine goesL_ (some 19) rfl rfl Try.func9 (by kernel_rfl) rfl #[.agg #[.slice A0_0 l0_0.length c0_0, .int .i64 a0_1, .int .i64 a0_2, .string a0_3]] rfl (by (try simp only [List.map_toArray, List.map_cons, List.map_nil]); first | done | rfl | (simp only [List.length_drop, List.length_take]; rfl)) ?_; (with_reducible refine (millhandref16_Great.calls k _ _ l0_0 a0_1 a0_2 a0_3 true _ ?side1 ?side2 A10.out).mono ?_); (case side1 => repeat (first | exact (Kd.C_below HR0_0.out HB.out) | (with_reducible refine Kd.C_alloc ?_ _) | (with_reducible refine Kd.C_drewN ?_ _) | (with_reducible refine Kd.C_drew ?_))); (case side2 => exact HC0_0.out); rintro e w13 ⟨rfl, hb⟩; refine ⟨_, rfl, ?_⟩; have n0_ := Aside0.mk (blk_below (g := gb231) (o := .cells #[.slice A0_0 l0_0.length c0_0, .int .i64 a0_1, .int .i64 a0_2, .string a0_3] 24 (0, 0)) (by (with_reducible repeat (first | refine blk_drewN ?_ _ | refine blk_drew ?_ | refine blk_alloc ?_ _)); exact BK231.out) hb); have n1_ := Aside0.mk (below_step (by repeat (first | (with_reducible first | exact HB.out | apply below_alloc | apply pw_below_drewN | apply below_drew1 | refine below_set ?_ GE231.out) | exact HB.out)) hb); clear BK231; clear HB; have BK231 := n0_; have HB := n1_; clear n0_ n1_; (try clear hb); (try clear hb2); (try clear hk); (try clear hi)))
   go_meet
   case rel => exact ⟨_, (true), (by first | rfl | (simp; done) | (simp [*]; done)), H', ⟨by first | omega | exact Nat.le_refl _⟩, ⟨by (with_reducible repeat (first | refine blk_drewN ?_ _ | refine blk_drew ?_ | refine blk_alloc ?_ _)); exact BK231.out⟩, ⟨by repeat (first | (with_reducible first | exact HB.out | apply below_alloc | apply pw_below_drewN | apply below_drew1 | refine below_set ?_ GE231.out) | exact HB.out)⟩⟩
  ·
   replace c11 := Bool.eq_false_iff.mpr c11
   subst c11
   have H1 : (if (a2.size : Int) > 1000 then (millhandlaw16_VersionMeets.j0 k a1 a2 a3 a4 t232 true l0_0 a0_1 a0_2 a0_3) else (if (a3.size : Int) > 1000 then (millhandlaw16_VersionMeets.j0 k a1 a2 a3 a4 t232 true l0_0 a0_1 a0_2 a0_3) else (if (a4.size : Int) > 1000 then (millhandlaw16_VersionMeets.j0 k a1 a2 a3 a4 t232 true l0_0 a0_1 a0_2 a0_3) else (millhandlaw16_VersionMeets.j0 k a1 a2 a3 a4 t232 (!t232) l0_0 a0_1 a0_2 a0_3)))) = some r := by rw [if_neg (show ¬ (false = true) by decide)] at H; exact H
   clear H
   have H := H1
   clear H1
   by_cases c14 : (a2.size : Int) > 1000
   ·
    rw [if_pos c14] at H
    have c14b0 : decide (1000 < (a2.size : Int)) = true := decide_eq_true c14
    have c14b1 : decide (1000 < a2.size) = true := decide_eq_true (by omega)
    clear c14
    (first | rw [c14b0] | (simp only [i64_w, i32_w]; rw [c14b0]) | skip)
    have H' := Aside0.mk H
    clear H
    have hcz15_0 : w9.cell? ⟨gb231, 0, none⟩ = some (.slice A0_0 l0_0.length c0_0) := (blk_cell BK231.out 0).trans rfl
    have hcz15_1 : w9.cell? ⟨gb231, 1, none⟩ = some (.int .i64 a0_1) := (blk_cell BK231.out 1).trans rfl
    have hcz15_2 : w9.cell? ⟨gb231, 2, none⟩ = some (.int .i64 a0_2) := (blk_cell BK231.out 2).trans rfl
    have hcz15_3 : w9.cell? ⟨gb231, 3, none⟩ = some (.string a0_3) := (blk_cell BK231.out 3).trans rfl
    have hfz15_0 := blk_frozen BK231.out 0
    have hfz15_1 := blk_frozen BK231.out 1
    have hfz15_2 := blk_frozen BK231.out 2
    have hfz15_3 := blk_frozen BK231.out 3
    go_wp2_with (first | ((with_reducible refine gate_callee (f := 9) rfl ?_); refine goesL_ (some 19) rfl rfl Try.func9 (by kernel_rfl) rfl #[.agg #[.slice A0_0 l0_0.length c0_0, .int .i64 a0_1, .int .i64 a0_2, .string a0_3]] rfl (by (try simp only [List.map_toArray, List.map_cons, List.map_nil]); first | done | rfl | (simp only [List.length_drop, List.length_take]; rfl)) ?_; (with_reducible refine (millhandref16_Great.calls k _ _ l0_0 a0_1 a0_2 a0_3 false _ ?side1 ?side2 A10.out).mono ?_); (case side1 => repeat (first | exact (Kd.C_below HR0_0.out HB.out) | (with_reducible refine Kd.C_alloc ?_ _) | (with_reducible refine Kd.C_drewN ?_ _) | (with_reducible refine Kd.C_drew ?_))); (case side2 => exact HC0_0.out); rintro e w16 ⟨rfl, hb⟩; refine ⟨_, rfl, ?_⟩; have n0_ := Aside0.mk (blk_below (g := gb231) (o := .cells #[.slice A0_0 l0_0.length c0_0, .int .i64 a0_1, .int .i64 a0_2, .string a0_3] 24 (0, 0)) (by (with_reducible repeat (first | refine blk_drewN ?_ _ | refine blk_drew ?_ | refine blk_alloc ?_ _)); exact BK231.out) hb); have n1_ := Aside0.mk (below_step (by repeat (first | (with_reducible first | exact HB.out | apply below_alloc | apply pw_below_drewN | apply below_drew1 | refine below_set ?_ GE231.out) | exact HB.out)) hb); clear BK231; clear HB; have BK231 := n0_; have HB := n1_; clear n0_ n1_; (try clear hb); (try clear hb2); (try clear hk); (try clear hi)))
    go_meet
    case rel => exact ⟨_, (true), (by first | rfl | (simp; done) | (simp [*]; done)), H', ⟨by first | omega | exact Nat.le_refl _⟩, ⟨by (with_reducible repeat (first | refine blk_drewN ?_ _ | refine blk_drew ?_ | refine blk_alloc ?_ _)); exact BK231.out⟩, ⟨by repeat (first | (with_reducible first | exact HB.out | apply below_alloc | apply pw_below_drewN | apply below_drew1 | refine below_set ?_ GE231.out) | exact HB.out)⟩⟩
   ·
    rw [if_neg c14] at H
    have c14b0 : decide (1000 < (a2.size : Int)) = false := decide_eq_false c14
    have c14b1 : decide (1000 < a2.size) = false := decide_eq_false (by omega)
    clear c14
    (first | rw [c14b0] | (simp only [i64_w, i32_w]; rw [c14b0]) | skip)
    by_cases c17 : (a3.size : Int) > 1000
    ·
     rw [if_pos c17] at H
     have c17b0 : decide (1000 < (a3.size : Int)) = true := decide_eq_true c17
     have c17b1 : decide (1000 < a3.size) = true := decide_eq_true (by omega)
     clear c17
     have H' := Aside0.mk H
     clear H
     have hcz18_0 : w9.cell? ⟨gb231, 0, none⟩ = some (.slice A0_0 l0_0.length c0_0) := (blk_cell BK231.out 0).trans rfl
     have hcz18_1 : w9.cell? ⟨gb231, 1, none⟩ = some (.int .i64 a0_1) := (blk_cell BK231.out 1).trans rfl
     have hcz18_2 : w9.cell? ⟨gb231, 2, none⟩ = some (.int .i64 a0_2) := (blk_cell BK231.out 2).trans rfl
     have hcz18_3 : w9.cell? ⟨gb231, 3, none⟩ = some (.string a0_3) := (blk_cell BK231.out 3).trans rfl
     have hfz18_0 := blk_frozen BK231.out 0
     have hfz18_1 := blk_frozen BK231.out 1
     have hfz18_2 := blk_frozen BK231.out 2
     have hfz18_3 := blk_frozen BK231.out 3
     go_wp2_with (first | ((with_reducible refine gate_callee (f := 9) rfl ?_); refine goesL_ (some 19) rfl rfl Try.func9 (by kernel_rfl) rfl #[.agg #[.slice A0_0 l0_0.length c0_0, .int .i64 a0_1, .int .i64 a0_2, .string a0_3]] rfl (by (try simp only [List.map_toArray, List.map_cons, List.map_nil]); first | done | rfl | (simp only [List.length_drop, List.length_take]; rfl)) ?_; (with_reducible refine (millhandref16_Great.calls k _ _ l0_0 a0_1 a0_2 a0_3 false _ ?side1 ?side2 A10.out).mono ?_); (case side1 => repeat (first | exact (Kd.C_below HR0_0.out HB.out) | (with_reducible refine Kd.C_alloc ?_ _) | (with_reducible refine Kd.C_drewN ?_ _) | (with_reducible refine Kd.C_drew ?_))); (case side2 => exact HC0_0.out); rintro e w19 ⟨rfl, hb⟩; refine ⟨_, rfl, ?_⟩; have n0_ := Aside0.mk (blk_below (g := gb231) (o := .cells #[.slice A0_0 l0_0.length c0_0, .int .i64 a0_1, .int .i64 a0_2, .string a0_3] 24 (0, 0)) (by (with_reducible repeat (first | refine blk_drewN ?_ _ | refine blk_drew ?_ | refine blk_alloc ?_ _)); exact BK231.out) hb); have n1_ := Aside0.mk (below_step (by repeat (first | (with_reducible first | exact HB.out | apply below_alloc | apply pw_below_drewN | apply below_drew1 | refine below_set ?_ GE231.out) | exact HB.out)) hb); clear BK231; clear HB; have BK231 := n0_; have HB := n1_; clear n0_ n1_; (try clear hb); (try clear hb2); (try clear hk); (try clear hi)))
     go_meet
     case rel => exact ⟨_, (true), (by first | rfl | (simp; done) | (simp [*]; done)), H', ⟨by first | omega | exact Nat.le_refl _⟩, ⟨by (with_reducible repeat (first | refine blk_drewN ?_ _ | refine blk_drew ?_ | refine blk_alloc ?_ _)); exact BK231.out⟩, ⟨by repeat (first | (with_reducible first | exact HB.out | apply below_alloc | apply pw_below_drewN | apply below_drew1 | refine below_set ?_ GE231.out) | exact HB.out)⟩⟩
    ·
     rw [if_neg c17] at H
     have c17b0 : decide (1000 < (a3.size : Int)) = false := decide_eq_false c17
     have c17b1 : decide (1000 < a3.size) = false := decide_eq_false (by omega)
     clear c17
     by_cases c20 : (a4.size : Int) > 1000
     ·
      rw [if_pos c20] at H
      have c20b0 : decide (1000 < (a4.size : Int)) = true := decide_eq_true c20
      have c20b1 : decide (1000 < a4.size) = true := decide_eq_true (by omega)
      clear c20
      have H' := Aside0.mk H
      clear H
      have hcz21_0 : w9.cell? ⟨gb231, 0, none⟩ = some (.slice A0_0 l0_0.length c0_0) := (blk_cell BK231.out 0).trans rfl
      have hcz21_1 : w9.cell? ⟨gb231, 1, none⟩ = some (.int .i64 a0_1) := (blk_cell BK231.out 1).trans rfl
      have hcz21_2 : w9.cell? ⟨gb231, 2, none⟩ = some (.int .i64 a0_2) := (blk_cell BK231.out 2).trans rfl
      have hcz21_3 : w9.cell? ⟨gb231, 3, none⟩ = some (.string a0_3) := (blk_cell BK231.out 3).trans rfl
      have hfz21_0 := blk_frozen BK231.out 0
      have hfz21_1 := blk_frozen BK231.out 1
      have hfz21_2 := blk_frozen BK231.out 2
      have hfz21_3 := blk_frozen BK231.out 3
      go_wp2_with (first | ((with_reducible refine gate_callee (f := 9) rfl ?_); refine goesL_ (some 19) rfl rfl Try.func9 (by kernel_rfl) rfl #[.agg #[.slice A0_0 l0_0.length c0_0, .int .i64 a0_1, .int .i64 a0_2, .string a0_3]] rfl (by (try simp only [List.map_toArray, List.map_cons, List.map_nil]); first | done | rfl | (simp only [List.length_drop, List.length_take]; rfl)) ?_; (with_reducible refine (millhandref16_Great.calls k _ _ l0_0 a0_1 a0_2 a0_3 false _ ?side1 ?side2 A10.out).mono ?_); (case side1 => repeat (first | exact (Kd.C_below HR0_0.out HB.out) | (with_reducible refine Kd.C_alloc ?_ _) | (with_reducible refine Kd.C_drewN ?_ _) | (with_reducible refine Kd.C_drew ?_))); (case side2 => exact HC0_0.out); rintro e w22 ⟨rfl, hb⟩; refine ⟨_, rfl, ?_⟩; have n0_ := Aside0.mk (blk_below (g := gb231) (o := .cells #[.slice A0_0 l0_0.length c0_0, .int .i64 a0_1, .int .i64 a0_2, .string a0_3] 24 (0, 0)) (by (with_reducible repeat (first | refine blk_drewN ?_ _ | refine blk_drew ?_ | refine blk_alloc ?_ _)); exact BK231.out) hb); have n1_ := Aside0.mk (below_step (by repeat (first | (with_reducible first | exact HB.out | apply below_alloc | apply pw_below_drewN | apply below_drew1 | refine below_set ?_ GE231.out) | exact HB.out)) hb); clear BK231; clear HB; have BK231 := n0_; have HB := n1_; clear n0_ n1_; (try clear hb); (try clear hb2); (try clear hk); (try clear hi)))
      go_meet
      case rel => exact ⟨_, (true), (by first | rfl | (simp; done) | (simp [*]; done)), H', ⟨by first | omega | exact Nat.le_refl _⟩, ⟨by (with_reducible repeat (first | refine blk_drewN ?_ _ | refine blk_drew ?_ | refine blk_alloc ?_ _)); exact BK231.out⟩, ⟨by repeat (first | (with_reducible first | exact HB.out | apply below_alloc | apply pw_below_drewN | apply below_drew1 | refine below_set ?_ GE231.out) | exact HB.out)⟩⟩
     ·
      rw [if_neg c20] at H
      have c20b0 : decide (1000 < (a4.size : Int)) = false := decide_eq_false c20
      have c20b1 : decide (1000 < a4.size) = false := decide_eq_false (by omega)
      clear c20
      have H' := Aside0.mk H
      clear H
      have hcz23_0 : w9.cell? ⟨gb231, 0, none⟩ = some (.slice A0_0 l0_0.length c0_0) := (blk_cell BK231.out 0).trans rfl
      have hcz23_1 : w9.cell? ⟨gb231, 1, none⟩ = some (.int .i64 a0_1) := (blk_cell BK231.out 1).trans rfl
      have hcz23_2 : w9.cell? ⟨gb231, 2, none⟩ = some (.int .i64 a0_2) := (blk_cell BK231.out 2).trans rfl
      have hcz23_3 : w9.cell? ⟨gb231, 3, none⟩ = some (.string a0_3) := (blk_cell BK231.out 3).trans rfl
      have hfz23_0 := blk_frozen BK231.out 0
      have hfz23_1 := blk_frozen BK231.out 1
      have hfz23_2 := blk_frozen BK231.out 2
      have hfz23_3 := blk_frozen BK231.out 3
      go_wp2_with (first | ((with_reducible refine gate_callee (f := 9) rfl ?_); refine goesL_ (some 19) rfl rfl Try.func9 (by kernel_rfl) rfl #[.agg #[.slice A0_0 l0_0.length c0_0, .int .i64 a0_1, .int .i64 a0_2, .string a0_3]] rfl (by (try simp only [List.map_toArray, List.map_cons, List.map_nil]); first | done | rfl | (simp only [List.length_drop, List.length_take]; rfl)) ?_; (with_reducible refine (millhandref16_Great.calls k _ _ l0_0 a0_1 a0_2 a0_3 false _ ?side1 ?side2 A10.out).mono ?_); (case side1 => repeat (first | exact (Kd.C_below HR0_0.out HB.out) | (with_reducible refine Kd.C_alloc ?_ _) | (with_reducible refine Kd.C_drewN ?_ _) | (with_reducible refine Kd.C_drew ?_))); (case side2 => exact HC0_0.out); rintro e w24 ⟨rfl, hb⟩; refine ⟨_, rfl, ?_⟩; have n0_ := Aside0.mk (blk_below (g := gb231) (o := .cells #[.slice A0_0 l0_0.length c0_0, .int .i64 a0_1, .int .i64 a0_2, .string a0_3] 24 (0, 0)) (by (with_reducible repeat (first | refine blk_drewN ?_ _ | refine blk_drew ?_ | refine blk_alloc ?_ _)); exact BK231.out) hb); have n1_ := Aside0.mk (below_step (by repeat (first | (with_reducible first | exact HB.out | apply below_alloc | apply pw_below_drewN | apply below_drew1 | refine below_set ?_ GE231.out) | exact HB.out)) hb); clear BK231; clear HB; have BK231 := n0_; have HB := n1_; clear n0_ n1_; (try clear hb); (try clear hb2); (try clear hk); (try clear hi)))
      go_meet
      case rel => exact ⟨_, (!t232), (by first | rfl | (simp; done) | (simp [*]; done)), H', ⟨by first | omega | exact Nat.le_refl _⟩, ⟨by (with_reducible repeat (first | refine blk_drewN ?_ _ | refine blk_drew ?_ | refine blk_alloc ?_ _)); exact BK231.out⟩, ⟨by repeat (first | (with_reducible first | exact HB.out | apply below_alloc | apply pw_below_drewN | apply below_drew1 | refine below_set ?_ GE231.out) | exact HB.out)⟩⟩
 case rest =>
  clear HC7
  try clear c1
  try clear c2
  try clear p2
  try clear c3
  try clear c8
  try clear c9
  try clear c11
  try clear c14
  try clear c14b0
  try clear c14b1
  try clear c17
  try clear c17b0
  try clear c17b1
  try clear c20
  try clear c20b0
  try clear c20b1
  try clear hcz12_0
  try clear hcz12_1
  try clear hcz12_2
  try clear hcz12_3
  try clear hcz15_0
  try clear hcz15_1
  try clear hcz15_2
  try clear hcz15_3
  try clear hcz18_0
  try clear hcz18_1
  try clear hcz18_2
  try clear hcz18_3
  try clear hcz21_0
  try clear hcz21_1
  try clear hcz21_2
  try clear hcz21_3
  try clear hcz23_0
  try clear hcz23_1
  try clear hcz23_2
  try clear hcz23_3
  try clear hfz12_0
  try clear hfz12_1
  try clear hfz12_2
  try clear hfz12_3
  try clear hfz15_0
  try clear hfz15_1
  try clear hfz15_2
  try clear hfz15_3
  try clear hfz18_0
  try clear hfz18_1
  try clear hfz18_2
  try clear hfz18_3
  try clear hfz21_0
  try clear hfz21_1
  try clear hfz21_2
  try clear hfz21_3
  try clear hfz23_0
  try clear hfz23_1
  try clear hfz23_2
  try clear hfz23_3
  obtain ⟨kq, x38_6, rfl, HA, HJ6, BK231, HB⟩ := hcut
  cases kq with
  | zero => exact absurd HA.out (by simp [millhandlaw16_VersionMeets.j0])
  | succ kj6 =>
   have H := HA.out
   clear HA
   simp only [millhandlaw16_VersionMeets.j0] at H
   by_cases c25 : x38_6 = true
   ·
    subst c25
    have H1 : (some t232) = some r := by rw [if_pos rfl] at H; exact H
    clear H
    have H := H1
    clear H1
    obtain rfl := Option.some.inj H
    go_wp2
    go_ret
    exact ⟨by first | rfl | (simp [errW_none, errW_some] <;> rfl) | (simp [*, errW_none, errW_some] <;> rfl) | exact ret_ie _ | (simp [*, errW_none, errW_some, bne]; done), by repeat (first | (with_reducible first | exact HB.out | apply below_alloc | apply pw_below_drewN | apply below_drew1 | refine below_set ?_ GE231.out) | exact HB.out)⟩
   ·
    replace c25 := Bool.eq_false_iff.mpr c25
    subst c25
    have H1 : ((version_Overlap.f kj6 l0_0 a0_1 a0_2 a0_3 a1 a2 a3).bind fun bt234 => (if bt234.2 = 0 then (millhandlaw16_VersionMeets.l0 kj6 a1 a2 a3 a4 bt234.1 0 l0_0 a0_1 a0_2 a0_3) else (some ((bt234.1.length : Int) == 0)))) = some r := by rw [if_neg (show ¬ (false = true) by decide)] at H; exact H
    clear H
    have H := H1
    clear H1
    replace H := Option.bind_eq_some_iff.mp H
    obtain ⟨⟨t234, t237⟩, A260, H⟩ := H
    replace H : (if t237 = 0 then (millhandlaw16_VersionMeets.l0 kj6 a1 a2 a3 a4 t234 0 l0_0 a0_1 a0_2 a0_3) else (some ((t234.length : Int) == 0))) = some r := H
    have A26 := Aside0.mk A260
    clear A260
    by_cases c27 : t237 = 0
    ·
     rw [if_pos c27] at H
     have c27b0 : (t237 == 0) = true := beq_iff_eq.mpr c27
     have c27b1 : (t237 != 0) = false := bne_eq_false_iff_eq.mpr c27
     clear c27
     have H' := Aside0.mk H
     clear H
     have hcz28_0 : wc.cell? ⟨gb231, 0, none⟩ = some (.slice A0_0 l0_0.length c0_0) := (blk_cell BK231.out 0).trans rfl
     have hcz28_1 : wc.cell? ⟨gb231, 1, none⟩ = some (.int .i64 a0_1) := (blk_cell BK231.out 1).trans rfl
     have hcz28_2 : wc.cell? ⟨gb231, 2, none⟩ = some (.int .i64 a0_2) := (blk_cell BK231.out 2).trans rfl
     have hcz28_3 : wc.cell? ⟨gb231, 3, none⟩ = some (.string a0_3) := (blk_cell BK231.out 3).trans rfl
     have hfz28_0 := blk_frozen BK231.out 0
     have hfz28_1 := blk_frozen BK231.out 1
     have hfz28_2 := blk_frozen BK231.out 2
     have hfz28_3 := blk_frozen BK231.out 3
     go_wp2_with (first | ((with_reducible refine gate_callee (f := 10) rfl ?_); refine goesL_ (some 45) rfl rfl Try.func10 (by kernel_rfl) rfl #[.agg #[.slice A0_0 l0_0.length c0_0, .int .i64 a0_1, .int .i64 a0_2, .string a0_3], .int .i64 a1, .string a2, .string a3] rfl (by (try simp only [List.map_toArray, List.map_cons, List.map_nil]); first | done | rfl | (simp only [List.length_drop, List.length_take]; rfl)) ?_; (with_reducible refine (version_Overlap.calls kj6 _ _ l0_0 a0_1 a0_2 a0_3 a1 a2 a3 t234 t237 _ ?side1 ?side2 A26.out).mono ?_); (case side1 => repeat (first | exact (Kd.C_below HR0_0.out HB.out) | (with_reducible refine Kd.C_alloc ?_ _) | (with_reducible refine Kd.C_drewN ?_ _) | (with_reducible refine Kd.C_drew ?_))); (case side2 => exact HC0_0.out); rintro e w29 ⟨v235, rfl, ho0, hb⟩; refine ⟨_, rfl, ?_⟩; have n0_ := Aside0.mk (Kd.R_lower ho0 (below_size (by repeat (first | (with_reducible first | exact HB.out | apply below_alloc | apply pw_below_drewN | apply below_drew1 | refine below_set ?_ GE231.out) | exact HB.out)))); have n1_ := Aside0.mk (blk_below (g := gb231) (o := .cells #[.slice A0_0 l0_0.length c0_0, .int .i64 a0_1, .int .i64 a0_2, .string a0_3] 24 (0, 0)) (by (with_reducible repeat (first | refine blk_drewN ?_ _ | refine blk_drew ?_ | refine blk_alloc ?_ _)); exact BK231.out) hb); have n2_ := Aside0.mk (below_step (by repeat (first | (with_reducible first | exact HB.out | apply below_alloc | apply pw_below_drewN | apply below_drew1 | refine below_set ?_ GE231.out) | exact HB.out)) hb); clear BK231; clear HB; have HO236 := n0_; have BK231 := n1_; have HB := n2_; clear n0_ n1_ n2_; (try clear hb); (try clear hb2); (try clear hk); (try clear hi); (try clear ho0)))
     go_loopg [14] kj6 (fun kq v14 w' => ∃ (x14_2 : Int), v14 = .int .i64 x14_2 ∧ Aside0 (millhandlaw16_VersionMeets.l0 kq a1 a2 a3 a4 t234 x14_2 l0_0 a0_1 a0_2 a0_3 = some r) ∧ Aside0 (kq ≤ kj6) ∧ Aside0 (Kd.R k32 32 w' w.heap.size (fun _ => True) v235 t234) ∧ Aside0 (w'.heap[gb231]? = some (.cells #[(.slice A0_0 l0_0.length c0_0), .int .i64 a0_1, .int .i64 a0_2, .string a0_3] 24 (0, 0))) ∧ Aside0 (Below w.heap.size w w'))
     case atStart => exact ⟨(0), (by first | rfl | (simp; done) | (simp [*]; done)), H', ⟨Nat.le_refl _⟩, ⟨by (with_reducible repeat (first | apply Kd.R_alloc | apply Kd.R_drewN | apply Kd.R_drew)); exact HO236.out⟩, ⟨by (with_reducible repeat (first | refine blk_drewN ?_ _ | refine blk_drew ?_ | refine blk_alloc ?_ _)); exact BK231.out⟩, ⟨by repeat (first | (with_reducible first | exact HB.out | apply below_alloc | apply pw_below_drewN | apply below_drew1 | refine below_set ?_ GE231.out) | exact HB.out)⟩⟩
     case round =>
      clear H'
      try clear c1
      try clear c2
      try clear p2
      try clear c3
      try clear c8
      try clear c9
      try clear c10
      try clear c11
      try clear c14
      try clear c14b0
      try clear c14b1
      try clear c17
      try clear c17b0
      try clear c17b1
      try clear c20
      try clear c20b0
      try clear c20b1
      try clear c25
      try clear c27
      try clear c27b0
      try clear c27b1
      try clear hcz12_0
      try clear hcz12_1
      try clear hcz12_2
      try clear hcz12_3
      try clear hcz15_0
      try clear hcz15_1
      try clear hcz15_2
      try clear hcz15_3
      try clear hcz18_0
      try clear hcz18_1
      try clear hcz18_2
      try clear hcz18_3
      try clear hcz21_0
      try clear hcz21_1
      try clear hcz21_2
      try clear hcz21_3
      try clear hcz23_0
      try clear hcz23_1
      try clear hcz23_2
      try clear hcz23_3
      try clear hcz28_0
      try clear hcz28_1
      try clear hcz28_2
      try clear hcz28_3
      try clear hfz12_0
      try clear hfz12_1
      try clear hfz12_2
      try clear hfz12_3
      try clear hfz15_0
      try clear hfz15_1
      try clear hfz15_2
      try clear hfz15_3
      try clear hfz18_0
      try clear hfz18_1
      try clear hfz18_2
      try clear hfz18_3
      try clear hfz21_0
      try clear hfz21_1
      try clear hfz21_2
      try clear hfz21_3
      try clear hfz23_0
      try clear hfz23_1
      try clear hfz23_2
      try clear hfz23_3
      try clear hfz28_0
      try clear hfz28_1
      try clear hfz28_2
      try clear hfz28_3
      try clear p2
      obtain ⟨x14_2, rfl, HA, HK2, HO_12, BK231, HB⟩ := hrel
      cases gk with
      | zero => exact absurd HA.out (by simp [millhandlaw16_VersionMeets.l0])
      | succ k2 =>
       have H := HA.out
       clear HA
       simp only [millhandlaw16_VersionMeets.l0] at H
       by_cases c30 : 0 ≤ a1
       ·
        rw [if_pos c30] at H
        have c30b0 : decide (0 ≤ a1) = true := decide_eq_true c30
        clear c30
        by_cases c31 : a1 < (l0_0.length : Int)
        ·
         rw [if_pos c31] at H
         have c31b0 : decide (a1 < (l0_0.length : Int)) = true := decide_eq_true c31
         clear c31
         by_cases c32 : x14_2 < ((rd_L3 l0_0 a1).length : Int)
         ·
          rw [if_pos c32] at H
          have c32b0 : decide (x14_2 < ((rd_L3 l0_0 a1).length : Int)) = true := decide_eq_true c32
          clear c32
          by_cases c33 : 0 ≤ x14_2
          ·
           rw [if_pos c33] at H
           have c33b0 : decide (0 ≤ x14_2) = true := decide_eq_true c33
           clear c33
           by_cases c34 : ((Op.bytesLess a4.toList a2.toList) = true)
           ·
            rw [if_pos c34] at H
            have c34b0 : (Op.bytesLess a4.toList a2.toList) = true := c34
            clear c34
            have H' := Aside0.mk H
            clear H
            have hcz35_0 : wr.cell? ⟨gb231, 0, none⟩ = some (.slice A0_0 l0_0.length c0_0) := (blk_cell BK231.out 0).trans rfl
            have hcz35_1 : wr.cell? ⟨gb231, 1, none⟩ = some (.int .i64 a0_1) := (blk_cell BK231.out 1).trans rfl
            have hcz35_2 : wr.cell? ⟨gb231, 2, none⟩ = some (.int .i64 a0_2) := (blk_cell BK231.out 2).trans rfl
            have hcz35_3 : wr.cell? ⟨gb231, 3, none⟩ = some (.string a0_3) := (blk_cell BK231.out 3).trans rfl
            have hfz35_0 := blk_frozen BK231.out 0
            have hfz35_1 := blk_frozen BK231.out 1
            have hfz35_2 := blk_frozen BK231.out 2
            have hfz35_3 := blk_frozen BK231.out 3
            have p238 : 0 ≤ (a1 : Int) := of_decide_eq_true (by first | (with_reducible assumption) | assumption)
            have q238 : a1 < (l0_0.length : Int) := of_decide_eq_true (by first | (with_reducible assumption) | assumption)
            obtain ⟨ad238, A238_0, c238_0, e238, hx238_0, hl238_0, hi238_0⟩ := at_L3 HR0_0.out a1 p238 q238
            cases e238
            replace hx238_0 := cl_ HB.out hx238_0
            have HR238_0 := Aside0.mk hi238_0
            have HC238_0 := Aside0.mk hl238_0
            clear hi238_0 hl238_0
            replace p238 := eq_true p238
            replace q238 := eq_true q238
            have p239 : 0 ≤ (a1 : Int) := of_decide_eq_true (by first | (with_reducible assumption) | assumption)
            have q239 : a1 < (l0_0.length : Int) := of_decide_eq_true (by first | (with_reducible assumption) | assumption)
            obtain ⟨ad239, A239_0, c239_0, e239, hx239_0, hl239_0, hi239_0⟩ := at_L3 HR0_0.out a1 p239 q239
            obtain rfl : ad238 = ad239 := (by injection e239)
            replace hx239_0 := cl_ HB.out hx239_0
            have HR239_0 := Aside0.mk hi239_0
            have HC239_0 := Aside0.mk hl239_0
            clear hi239_0 hl239_0
            replace p239 := eq_true p239
            replace q239 := eq_true q239
            have ea_ := Option.some.inj (hx238_0.symm.trans hx239_0)
            injection ea_ with ea_ en_ ec_
            subst ea_
            subst ec_
            clear en_
            have p240 : 0 ≤ (x14_2 : Int) := of_decide_eq_true (by first | (with_reducible assumption) | assumption)
            have q240 : x14_2 < ((rd_L3 l0_0 a1).length : Int) := of_decide_eq_true (by first | (with_reducible assumption) | assumption)
            obtain ⟨ad240, e240, hx240_0, hx240_1, hx240_2, hx240_3, hx240_4⟩ := at_T32 HR239_0.out x14_2 p240 q240
            cases e240
            replace hx240_0 := cl_ HB.out hx240_0
            replace hx240_1 := cl_ HB.out hx240_1
            replace hx240_2 := cl_ HB.out hx240_2
            replace hx240_3 := cl_ HB.out hx240_3
            replace hx240_4 := cl_ HB.out hx240_4
            replace p240 := eq_true p240
            replace q240 := eq_true q240
            go_wp2_with (first | ((with_reducible refine gate_dst (N := 15) rfl ?_); (try (refine gate_guard (by rfl) ?_; dsimp only)); refine box_event ?hg (N := 15) ?hd (cs := #[.string (⟨#[]⟩ : ByteArray), .int .i64 0, .int .i64 0, .string (⟨#[]⟩ : ByteArray), .string (⟨#[]⟩ : ByteArray)]) (t := 32) ?hr ?_; (case hd => rfl); (case hg => rfl); (case hr => first | (go_simp; done) | (go_simp; rfl)); intro gb241 hg w36 hbox hb; have n0_ := Aside0.mk (Kd.R_below (Kd.R_elderB (by (with_reducible repeat (first | apply Kd.R_alloc | apply Kd.R_drewN | apply Kd.R_drew)); exact HO_12.out) gb241 (Nat.le_of_eq hg.symm)) hb); have n1_ := Aside0.mk (blk_below (g := gb231) (o := .cells #[.slice (some ad238) l0_0.length c0_0, .int .i64 a0_1, .int .i64 a0_2, .string a0_3] 24 (0, 0)) (by (with_reducible repeat (first | refine blk_drewN ?_ _ | refine blk_drew ?_ | refine blk_alloc ?_ _)); exact BK231.out) hb); have n2_ := Aside0.mk (below_step (by repeat (first | (with_reducible first | exact HB.out | apply below_alloc | apply pw_below_drewN | apply below_drew1 | refine below_set ?_ GE231.out) | exact HB.out)) hb); have n3_ := Aside0.mk (hbox); have n4_ := Aside0.mk ((by rw [hg]; exact (below_size (by repeat (first | (with_reducible first | exact HB.out | apply below_alloc | apply pw_below_drewN | apply below_drew1 | refine below_set ?_ GE231.out) | exact HB.out))) : w.heap.size ≤ gb241)); have n5_ := Aside0.mk ((by rw [hg]; exact (below_size (by repeat (first | (with_reducible first | exact HB.out | apply below_alloc | apply pw_below_drewN | apply below_drew1 | refine below_set ?_ GE231.out) | exact HB.out))) : w.heap.size ≤ gb241)); have n6_ := Aside0.mk ((by rw [hg]; exact Nat.ne_of_lt (blk_lt (g := gb231) (o := .cells #[.slice (some ad238) l0_0.length c0_0, .int .i64 a0_1, .int .i64 a0_2, .string a0_3] 24 (0, 0)) (by (with_reducible repeat (first | refine blk_drewN ?_ _ | refine blk_drew ?_ | refine blk_alloc ?_ _)); exact BK231.out)) : gb231 ≠ gb241)); have n7_ := Aside0.mk ((by rw [hg]; exact Nat.ne_of_gt (blk_lt (g := gb231) (o := .cells #[.slice (some ad238) l0_0.length c0_0, .int .i64 a0_1, .int .i64 a0_2, .string a0_3] 24 (0, 0)) (by (with_reducible repeat (first | refine blk_drewN ?_ _ | refine blk_drew ?_ | refine blk_alloc ?_ _)); exact BK231.out)) : gb241 ≠ gb231)); clear HO_12; clear BK231; clear HB; have HO_12 := n0_; have BK231 := n1_; have HB := n2_; have BK241 := n3_; have GW241 := n4_; have GE241 := n5_; have NB231_241 := n6_; have NB241_231 := n7_; clear n0_ n1_ n2_ n3_ n4_ n5_ n6_ n7_; clear hb hbox hg; have hnb37 := NB241_231.out; have hnc37 := NB231_241.out; have hcz38_0 : w36.cell? ⟨gb241, 0, none⟩ = some (.string (⟨#[]⟩ : ByteArray)) := (blk_cell BK241.out 0).trans rfl; have hcz38_1 : w36.cell? ⟨gb241, 1, none⟩ = some (.int .i64 0) := (blk_cell BK241.out 1).trans rfl; have hcz38_2 : w36.cell? ⟨gb241, 2, none⟩ = some (.int .i64 0) := (blk_cell BK241.out 2).trans rfl; have hcz38_3 : w36.cell? ⟨gb241, 3, none⟩ = some (.string (⟨#[]⟩ : ByteArray)) := (blk_cell BK241.out 3).trans rfl; have hcz38_4 : w36.cell? ⟨gb241, 4, none⟩ = some (.string (⟨#[]⟩ : ByteArray)) := (blk_cell BK241.out 4).trans rfl; have hfz38_0 := blk_frozen BK241.out 0; have hfz38_1 := blk_frozen BK241.out 1; have hfz38_2 := blk_frozen BK241.out 2; have hfz38_3 := blk_frozen BK241.out 3; have hfz38_4 := blk_frozen BK241.out 4))
            go_roundg k2
            case measure => have := HJ6.out; have := HK2.out; omega
            case rel => exact ⟨(wrap64 (x14_2 + 1)), (by first | rfl | (simp; done) | (simp [*]; done)), H', ⟨by have := HJ6.out; have := HK2.out; omega⟩, ⟨by (with_reducible repeat (first | apply Kd.R_alloc | apply Kd.R_drewN | apply Kd.R_drew)); exact Kd.R_mono (Kd.R_far (p := ⟨gb241, 4, none⟩) (Kd.R_far (p := ⟨gb241, 3, none⟩) (Kd.R_far (p := ⟨gb241, 2, none⟩) (Kd.R_far (p := ⟨gb241, 1, none⟩) (Kd.R_far (p := ⟨gb241, 0, none⟩) (Kd.R_mono HO_12.out (fun k_ hk => (⟨hk, hk.2⟩ : _ ∧ k_ ≠ gb241))) (fun _ hk => hk.2) (.string ((rd_T32 (rd_L3 l0_0 a1) x14_2).f0))) (fun _ hk => hk.2) (.int .i64 ((rd_T32 (rd_L3 l0_0 a1) x14_2).f1))) (fun _ hk => hk.2) (.int .i64 ((rd_T32 (rd_L3 l0_0 a1) x14_2).f2))) (fun _ hk => hk.2) (.string ((rd_T32 (rd_L3 l0_0 a1) x14_2).f3))) (fun _ hk => hk.2) (.string ((rd_T32 (rd_L3 l0_0 a1) x14_2).f4))) (fun _ hk => trivial)⟩, ⟨by (with_reducible repeat (first | refine blk_drewN ?_ _ | refine blk_drew ?_ | refine blk_alloc ?_ _)); refine blk_far ?_ NB231_241.out _; (with_reducible repeat (first | refine blk_drewN ?_ _ | refine blk_drew ?_ | refine blk_alloc ?_ _)); refine blk_far ?_ NB231_241.out _; (with_reducible repeat (first | refine blk_drewN ?_ _ | refine blk_drew ?_ | refine blk_alloc ?_ _)); refine blk_far ?_ NB231_241.out _; (with_reducible repeat (first | refine blk_drewN ?_ _ | refine blk_drew ?_ | refine blk_alloc ?_ _)); refine blk_far ?_ NB231_241.out _; (with_reducible repeat (first | refine blk_drewN ?_ _ | refine blk_drew ?_ | refine blk_alloc ?_ _)); refine blk_far ?_ NB231_241.out _; (with_reducible repeat (first | refine blk_drewN ?_ _ | refine blk_drew ?_ | refine blk_alloc ?_ _)); exact BK231.out⟩, ⟨by repeat (first | (with_reducible first | exact HB.out | apply below_alloc | apply pw_below_drewN | apply below_drew1 | refine below_set ?_ GE231.out | refine below_set ?_ GE241.out) | exact HB.out)⟩⟩
           ·
            rw [if_neg c34] at H
            have c34b0 : (Op.bytesLess a4.toList a2.toList) = false := by simpa using c34
            clear c34
            by_cases c39 : ((Op.bytesLess a3.toList a4.toList) = true)
            ·
             rw [if_pos c39] at H
             have c39b0 : (Op.bytesLess a3.toList a4.toList) = true := c39
             clear c39
             have H' := Aside0.mk H
             clear H
             have hcz40_0 : wr.cell? ⟨gb231, 0, none⟩ = some (.slice A0_0 l0_0.length c0_0) := (blk_cell BK231.out 0).trans rfl
             have hcz40_1 : wr.cell? ⟨gb231, 1, none⟩ = some (.int .i64 a0_1) := (blk_cell BK231.out 1).trans rfl
             have hcz40_2 : wr.cell? ⟨gb231, 2, none⟩ = some (.int .i64 a0_2) := (blk_cell BK231.out 2).trans rfl
             have hcz40_3 : wr.cell? ⟨gb231, 3, none⟩ = some (.string a0_3) := (blk_cell BK231.out 3).trans rfl
             have hfz40_0 := blk_frozen BK231.out 0
             have hfz40_1 := blk_frozen BK231.out 1
             have hfz40_2 := blk_frozen BK231.out 2
             have hfz40_3 := blk_frozen BK231.out 3
             have p238 : 0 ≤ (a1 : Int) := of_decide_eq_true (by first | (with_reducible assumption) | assumption)
             have q238 : a1 < (l0_0.length : Int) := of_decide_eq_true (by first | (with_reducible assumption) | assumption)
             obtain ⟨ad238, A238_0, c238_0, e238, hx238_0, hl238_0, hi238_0⟩ := at_L3 HR0_0.out a1 p238 q238
             cases e238
             replace hx238_0 := cl_ HB.out hx238_0
             have HR238_0 := Aside0.mk hi238_0
             have HC238_0 := Aside0.mk hl238_0
             clear hi238_0 hl238_0
             replace p238 := eq_true p238
             replace q238 := eq_true q238
             have p239 : 0 ≤ (a1 : Int) := of_decide_eq_true (by first | (with_reducible assumption) | assumption)
             have q239 : a1 < (l0_0.length : Int) := of_decide_eq_true (by first | (with_reducible assumption) | assumption)
             obtain ⟨ad239, A239_0, c239_0, e239, hx239_0, hl239_0, hi239_0⟩ := at_L3 HR0_0.out a1 p239 q239
             obtain rfl : ad238 = ad239 := (by injection e239)
             replace hx239_0 := cl_ HB.out hx239_0
             have HR239_0 := Aside0.mk hi239_0
             have HC239_0 := Aside0.mk hl239_0
             clear hi239_0 hl239_0
             replace p239 := eq_true p239
             replace q239 := eq_true q239
             have ea_ := Option.some.inj (hx238_0.symm.trans hx239_0)
             injection ea_ with ea_ en_ ec_
             subst ea_
             subst ec_
             clear en_
             have p240 : 0 ≤ (x14_2 : Int) := of_decide_eq_true (by first | (with_reducible assumption) | assumption)
             have q240 : x14_2 < ((rd_L3 l0_0 a1).length : Int) := of_decide_eq_true (by first | (with_reducible assumption) | assumption)
             obtain ⟨ad240, e240, hx240_0, hx240_1, hx240_2, hx240_3, hx240_4⟩ := at_T32 HR239_0.out x14_2 p240 q240
             cases e240
             replace hx240_0 := cl_ HB.out hx240_0
             replace hx240_1 := cl_ HB.out hx240_1
             replace hx240_2 := cl_ HB.out hx240_2
             replace hx240_3 := cl_ HB.out hx240_3
             replace hx240_4 := cl_ HB.out hx240_4
             replace p240 := eq_true p240
             replace q240 := eq_true q240
             go_wp2_with (first | ((with_reducible refine gate_dst (N := 15) rfl ?_); (try (refine gate_guard (by rfl) ?_; dsimp only)); refine box_event ?hg (N := 15) ?hd (cs := #[.string (⟨#[]⟩ : ByteArray), .int .i64 0, .int .i64 0, .string (⟨#[]⟩ : ByteArray), .string (⟨#[]⟩ : ByteArray)]) (t := 32) ?hr ?_; (case hd => rfl); (case hg => rfl); (case hr => first | (go_simp; done) | (go_simp; rfl)); intro gb241 hg w41 hbox hb; have n0_ := Aside0.mk (Kd.R_below (Kd.R_elderB (by (with_reducible repeat (first | apply Kd.R_alloc | apply Kd.R_drewN | apply Kd.R_drew)); exact HO_12.out) gb241 (Nat.le_of_eq hg.symm)) hb); have n1_ := Aside0.mk (blk_below (g := gb231) (o := .cells #[.slice (some ad238) l0_0.length c0_0, .int .i64 a0_1, .int .i64 a0_2, .string a0_3] 24 (0, 0)) (by (with_reducible repeat (first | refine blk_drewN ?_ _ | refine blk_drew ?_ | refine blk_alloc ?_ _)); exact BK231.out) hb); have n2_ := Aside0.mk (below_step (by repeat (first | (with_reducible first | exact HB.out | apply below_alloc | apply pw_below_drewN | apply below_drew1 | refine below_set ?_ GE231.out) | exact HB.out)) hb); have n3_ := Aside0.mk (hbox); have n4_ := Aside0.mk ((by rw [hg]; exact (below_size (by repeat (first | (with_reducible first | exact HB.out | apply below_alloc | apply pw_below_drewN | apply below_drew1 | refine below_set ?_ GE231.out) | exact HB.out))) : w.heap.size ≤ gb241)); have n5_ := Aside0.mk ((by rw [hg]; exact (below_size (by repeat (first | (with_reducible first | exact HB.out | apply below_alloc | apply pw_below_drewN | apply below_drew1 | refine below_set ?_ GE231.out) | exact HB.out))) : w.heap.size ≤ gb241)); have n6_ := Aside0.mk ((by rw [hg]; exact Nat.ne_of_lt (blk_lt (g := gb231) (o := .cells #[.slice (some ad238) l0_0.length c0_0, .int .i64 a0_1, .int .i64 a0_2, .string a0_3] 24 (0, 0)) (by (with_reducible repeat (first | refine blk_drewN ?_ _ | refine blk_drew ?_ | refine blk_alloc ?_ _)); exact BK231.out)) : gb231 ≠ gb241)); have n7_ := Aside0.mk ((by rw [hg]; exact Nat.ne_of_gt (blk_lt (g := gb231) (o := .cells #[.slice (some ad238) l0_0.length c0_0, .int .i64 a0_1, .int .i64 a0_2, .string a0_3] 24 (0, 0)) (by (with_reducible repeat (first | refine blk_drewN ?_ _ | refine blk_drew ?_ | refine blk_alloc ?_ _)); exact BK231.out)) : gb241 ≠ gb231)); clear HO_12; clear BK231; clear HB; have HO_12 := n0_; have BK231 := n1_; have HB := n2_; have BK241 := n3_; have GW241 := n4_; have GE241 := n5_; have NB231_241 := n6_; have NB241_231 := n7_; clear n0_ n1_ n2_ n3_ n4_ n5_ n6_ n7_; clear hb hbox hg; have hnb42 := NB241_231.out; have hnc42 := NB231_241.out; have hcz43_0 : w41.cell? ⟨gb241, 0, none⟩ = some (.string (⟨#[]⟩ : ByteArray)) := (blk_cell BK241.out 0).trans rfl; have hcz43_1 : w41.cell? ⟨gb241, 1, none⟩ = some (.int .i64 0) := (blk_cell BK241.out 1).trans rfl; have hcz43_2 : w41.cell? ⟨gb241, 2, none⟩ = some (.int .i64 0) := (blk_cell BK241.out 2).trans rfl; have hcz43_3 : w41.cell? ⟨gb241, 3, none⟩ = some (.string (⟨#[]⟩ : ByteArray)) := (blk_cell BK241.out 3).trans rfl; have hcz43_4 : w41.cell? ⟨gb241, 4, none⟩ = some (.string (⟨#[]⟩ : ByteArray)) := (blk_cell BK241.out 4).trans rfl; have hfz43_0 := blk_frozen BK241.out 0; have hfz43_1 := blk_frozen BK241.out 1; have hfz43_2 := blk_frozen BK241.out 2; have hfz43_3 := blk_frozen BK241.out 3; have hfz43_4 := blk_frozen BK241.out 4))
             go_roundg k2
             case measure => have := HJ6.out; have := HK2.out; omega
             case rel => exact ⟨(wrap64 (x14_2 + 1)), (by first | rfl | (simp; done) | (simp [*]; done)), H', ⟨by have := HJ6.out; have := HK2.out; omega⟩, ⟨by (with_reducible repeat (first | apply Kd.R_alloc | apply Kd.R_drewN | apply Kd.R_drew)); exact Kd.R_mono (Kd.R_far (p := ⟨gb241, 4, none⟩) (Kd.R_far (p := ⟨gb241, 3, none⟩) (Kd.R_far (p := ⟨gb241, 2, none⟩) (Kd.R_far (p := ⟨gb241, 1, none⟩) (Kd.R_far (p := ⟨gb241, 0, none⟩) (Kd.R_mono HO_12.out (fun k_ hk => (⟨hk, hk.2⟩ : _ ∧ k_ ≠ gb241))) (fun _ hk => hk.2) (.string ((rd_T32 (rd_L3 l0_0 a1) x14_2).f0))) (fun _ hk => hk.2) (.int .i64 ((rd_T32 (rd_L3 l0_0 a1) x14_2).f1))) (fun _ hk => hk.2) (.int .i64 ((rd_T32 (rd_L3 l0_0 a1) x14_2).f2))) (fun _ hk => hk.2) (.string ((rd_T32 (rd_L3 l0_0 a1) x14_2).f3))) (fun _ hk => hk.2) (.string ((rd_T32 (rd_L3 l0_0 a1) x14_2).f4))) (fun _ hk => trivial)⟩, ⟨by (with_reducible repeat (first | refine blk_drewN ?_ _ | refine blk_drew ?_ | refine blk_alloc ?_ _)); refine blk_far ?_ NB231_241.out _; (with_reducible repeat (first | refine blk_drewN ?_ _ | refine blk_drew ?_ | refine blk_alloc ?_ _)); refine blk_far ?_ NB231_241.out _; (with_reducible repeat (first | refine blk_drewN ?_ _ | refine blk_drew ?_ | refine blk_alloc ?_ _)); refine blk_far ?_ NB231_241.out _; (with_reducible repeat (first | refine blk_drewN ?_ _ | refine blk_drew ?_ | refine blk_alloc ?_ _)); refine blk_far ?_ NB231_241.out _; (with_reducible repeat (first | refine blk_drewN ?_ _ | refine blk_drew ?_ | refine blk_alloc ?_ _)); refine blk_far ?_ NB231_241.out _; (with_reducible repeat (first | refine blk_drewN ?_ _ | refine blk_drew ?_ | refine blk_alloc ?_ _)); exact BK231.out⟩, ⟨by repeat (first | (with_reducible first | exact HB.out | apply below_alloc | apply pw_below_drewN | apply below_drew1 | refine below_set ?_ GE231.out | refine below_set ?_ GE241.out) | exact HB.out)⟩⟩
            ·
             rw [if_neg c39] at H
             have c39b0 : (Op.bytesLess a3.toList a4.toList) = false := by simpa using c39
             clear c39
             by_cases c44 : ((Op.bytesLess a4.toList (((rd_T32 (rd_L3 l0_0 a1) x14_2).f3).toList)) = true)
             ·
              rw [if_pos c44] at H
              have c44b0 : (Op.bytesLess a4.toList (((rd_T32 (rd_L3 l0_0 a1) x14_2).f3).toList)) = true := c44
              clear c44
              have H' := Aside0.mk H
              clear H
              have hcz45_0 : wr.cell? ⟨gb231, 0, none⟩ = some (.slice A0_0 l0_0.length c0_0) := (blk_cell BK231.out 0).trans rfl
              have hcz45_1 : wr.cell? ⟨gb231, 1, none⟩ = some (.int .i64 a0_1) := (blk_cell BK231.out 1).trans rfl
              have hcz45_2 : wr.cell? ⟨gb231, 2, none⟩ = some (.int .i64 a0_2) := (blk_cell BK231.out 2).trans rfl
              have hcz45_3 : wr.cell? ⟨gb231, 3, none⟩ = some (.string a0_3) := (blk_cell BK231.out 3).trans rfl
              have hfz45_0 := blk_frozen BK231.out 0
              have hfz45_1 := blk_frozen BK231.out 1
              have hfz45_2 := blk_frozen BK231.out 2
              have hfz45_3 := blk_frozen BK231.out 3
              have p238 : 0 ≤ (a1 : Int) := of_decide_eq_true (by first | (with_reducible assumption) | assumption)
              have q238 : a1 < (l0_0.length : Int) := of_decide_eq_true (by first | (with_reducible assumption) | assumption)
              obtain ⟨ad238, A238_0, c238_0, e238, hx238_0, hl238_0, hi238_0⟩ := at_L3 HR0_0.out a1 p238 q238
              cases e238
              replace hx238_0 := cl_ HB.out hx238_0
              have HR238_0 := Aside0.mk hi238_0
              have HC238_0 := Aside0.mk hl238_0
              clear hi238_0 hl238_0
              replace p238 := eq_true p238
              replace q238 := eq_true q238
              have p239 : 0 ≤ (a1 : Int) := of_decide_eq_true (by first | (with_reducible assumption) | assumption)
              have q239 : a1 < (l0_0.length : Int) := of_decide_eq_true (by first | (with_reducible assumption) | assumption)
              obtain ⟨ad239, A239_0, c239_0, e239, hx239_0, hl239_0, hi239_0⟩ := at_L3 HR0_0.out a1 p239 q239
              obtain rfl : ad238 = ad239 := (by injection e239)
              replace hx239_0 := cl_ HB.out hx239_0
              have HR239_0 := Aside0.mk hi239_0
              have HC239_0 := Aside0.mk hl239_0
              clear hi239_0 hl239_0
              replace p239 := eq_true p239
              replace q239 := eq_true q239
              have ea_ := Option.some.inj (hx238_0.symm.trans hx239_0)
              injection ea_ with ea_ en_ ec_
              subst ea_
              subst ec_
              clear en_
              have p240 : 0 ≤ (x14_2 : Int) := of_decide_eq_true (by first | (with_reducible assumption) | assumption)
              have q240 : x14_2 < ((rd_L3 l0_0 a1).length : Int) := of_decide_eq_true (by first | (with_reducible assumption) | assumption)
              obtain ⟨ad240, e240, hx240_0, hx240_1, hx240_2, hx240_3, hx240_4⟩ := at_T32 HR239_0.out x14_2 p240 q240
              cases e240
              replace hx240_0 := cl_ HB.out hx240_0
              replace hx240_1 := cl_ HB.out hx240_1
              replace hx240_2 := cl_ HB.out hx240_2
              replace hx240_3 := cl_ HB.out hx240_3
              replace hx240_4 := cl_ HB.out hx240_4
              replace p240 := eq_true p240
              replace q240 := eq_true q240
              go_wp2_with (first | ((with_reducible refine gate_dst (N := 15) rfl ?_); (try (refine gate_guard (by rfl) ?_; dsimp only)); refine box_event ?hg (N := 15) ?hd (cs := #[.string (⟨#[]⟩ : ByteArray), .int .i64 0, .int .i64 0, .string (⟨#[]⟩ : ByteArray), .string (⟨#[]⟩ : ByteArray)]) (t := 32) ?hr ?_; (case hd => rfl); (case hg => rfl); (case hr => first | (go_simp; done) | (go_simp; rfl)); intro gb241 hg w46 hbox hb; have n0_ := Aside0.mk (Kd.R_below (Kd.R_elderB (by (with_reducible repeat (first | apply Kd.R_alloc | apply Kd.R_drewN | apply Kd.R_drew)); exact HO_12.out) gb241 (Nat.le_of_eq hg.symm)) hb); have n1_ := Aside0.mk (blk_below (g := gb231) (o := .cells #[.slice (some ad238) l0_0.length c0_0, .int .i64 a0_1, .int .i64 a0_2, .string a0_3] 24 (0, 0)) (by (with_reducible repeat (first | refine blk_drewN ?_ _ | refine blk_drew ?_ | refine blk_alloc ?_ _)); exact BK231.out) hb); have n2_ := Aside0.mk (below_step (by repeat (first | (with_reducible first | exact HB.out | apply below_alloc | apply pw_below_drewN | apply below_drew1 | refine below_set ?_ GE231.out) | exact HB.out)) hb); have n3_ := Aside0.mk (hbox); have n4_ := Aside0.mk ((by rw [hg]; exact (below_size (by repeat (first | (with_reducible first | exact HB.out | apply below_alloc | apply pw_below_drewN | apply below_drew1 | refine below_set ?_ GE231.out) | exact HB.out))) : w.heap.size ≤ gb241)); have n5_ := Aside0.mk ((by rw [hg]; exact (below_size (by repeat (first | (with_reducible first | exact HB.out | apply below_alloc | apply pw_below_drewN | apply below_drew1 | refine below_set ?_ GE231.out) | exact HB.out))) : w.heap.size ≤ gb241)); have n6_ := Aside0.mk ((by rw [hg]; exact Nat.ne_of_lt (blk_lt (g := gb231) (o := .cells #[.slice (some ad238) l0_0.length c0_0, .int .i64 a0_1, .int .i64 a0_2, .string a0_3] 24 (0, 0)) (by (with_reducible repeat (first | refine blk_drewN ?_ _ | refine blk_drew ?_ | refine blk_alloc ?_ _)); exact BK231.out)) : gb231 ≠ gb241)); have n7_ := Aside0.mk ((by rw [hg]; exact Nat.ne_of_gt (blk_lt (g := gb231) (o := .cells #[.slice (some ad238) l0_0.length c0_0, .int .i64 a0_1, .int .i64 a0_2, .string a0_3] 24 (0, 0)) (by (with_reducible repeat (first | refine blk_drewN ?_ _ | refine blk_drew ?_ | refine blk_alloc ?_ _)); exact BK231.out)) : gb241 ≠ gb231)); clear HO_12; clear BK231; clear HB; have HO_12 := n0_; have BK231 := n1_; have HB := n2_; have BK241 := n3_; have GW241 := n4_; have GE241 := n5_; have NB231_241 := n6_; have NB241_231 := n7_; clear n0_ n1_ n2_ n3_ n4_ n5_ n6_ n7_; clear hb hbox hg; have hnb47 := NB241_231.out; have hnc47 := NB231_241.out; have hcz48_0 : w46.cell? ⟨gb241, 0, none⟩ = some (.string (⟨#[]⟩ : ByteArray)) := (blk_cell BK241.out 0).trans rfl; have hcz48_1 : w46.cell? ⟨gb241, 1, none⟩ = some (.int .i64 0) := (blk_cell BK241.out 1).trans rfl; have hcz48_2 : w46.cell? ⟨gb241, 2, none⟩ = some (.int .i64 0) := (blk_cell BK241.out 2).trans rfl; have hcz48_3 : w46.cell? ⟨gb241, 3, none⟩ = some (.string (⟨#[]⟩ : ByteArray)) := (blk_cell BK241.out 3).trans rfl; have hcz48_4 : w46.cell? ⟨gb241, 4, none⟩ = some (.string (⟨#[]⟩ : ByteArray)) := (blk_cell BK241.out 4).trans rfl; have hfz48_0 := blk_frozen BK241.out 0; have hfz48_1 := blk_frozen BK241.out 1; have hfz48_2 := blk_frozen BK241.out 2; have hfz48_3 := blk_frozen BK241.out 3; have hfz48_4 := blk_frozen BK241.out 4))
              go_roundg k2
              case measure => have := HJ6.out; have := HK2.out; omega
              case rel => exact ⟨(wrap64 (x14_2 + 1)), (by first | rfl | (simp; done) | (simp [*]; done)), H', ⟨by have := HJ6.out; have := HK2.out; omega⟩, ⟨by (with_reducible repeat (first | apply Kd.R_alloc | apply Kd.R_drewN | apply Kd.R_drew)); exact Kd.R_mono (Kd.R_far (p := ⟨gb241, 4, none⟩) (Kd.R_far (p := ⟨gb241, 3, none⟩) (Kd.R_far (p := ⟨gb241, 2, none⟩) (Kd.R_far (p := ⟨gb241, 1, none⟩) (Kd.R_far (p := ⟨gb241, 0, none⟩) (Kd.R_mono HO_12.out (fun k_ hk => (⟨hk, hk.2⟩ : _ ∧ k_ ≠ gb241))) (fun _ hk => hk.2) (.string ((rd_T32 (rd_L3 l0_0 a1) x14_2).f0))) (fun _ hk => hk.2) (.int .i64 ((rd_T32 (rd_L3 l0_0 a1) x14_2).f1))) (fun _ hk => hk.2) (.int .i64 ((rd_T32 (rd_L3 l0_0 a1) x14_2).f2))) (fun _ hk => hk.2) (.string ((rd_T32 (rd_L3 l0_0 a1) x14_2).f3))) (fun _ hk => hk.2) (.string ((rd_T32 (rd_L3 l0_0 a1) x14_2).f4))) (fun _ hk => trivial)⟩, ⟨by (with_reducible repeat (first | refine blk_drewN ?_ _ | refine blk_drew ?_ | refine blk_alloc ?_ _)); refine blk_far ?_ NB231_241.out _; (with_reducible repeat (first | refine blk_drewN ?_ _ | refine blk_drew ?_ | refine blk_alloc ?_ _)); refine blk_far ?_ NB231_241.out _; (with_reducible repeat (first | refine blk_drewN ?_ _ | refine blk_drew ?_ | refine blk_alloc ?_ _)); refine blk_far ?_ NB231_241.out _; (with_reducible repeat (first | refine blk_drewN ?_ _ | refine blk_drew ?_ | refine blk_alloc ?_ _)); refine blk_far ?_ NB231_241.out _; (with_reducible repeat (first | refine blk_drewN ?_ _ | refine blk_drew ?_ | refine blk_alloc ?_ _)); refine blk_far ?_ NB231_241.out _; (with_reducible repeat (first | refine blk_drewN ?_ _ | refine blk_drew ?_ | refine blk_alloc ?_ _)); exact BK231.out⟩, ⟨by repeat (first | (with_reducible first | exact HB.out | apply below_alloc | apply pw_below_drewN | apply below_drew1 | refine below_set ?_ GE231.out | refine below_set ?_ GE241.out) | exact HB.out)⟩⟩
             ·
              rw [if_neg c44] at H
              have c44b0 : (Op.bytesLess a4.toList (((rd_T32 (rd_L3 l0_0 a1) x14_2).f3).toList)) = false := by simpa using c44
              clear c44
              by_cases c49 : ((Op.bytesLess (((rd_T32 (rd_L3 l0_0 a1) x14_2).f4).toList) a4.toList) = true)
              ·
               rw [if_pos c49] at H
               have c49b0 : (Op.bytesLess (((rd_T32 (rd_L3 l0_0 a1) x14_2).f4).toList) a4.toList) = true := c49
               clear c49
               have H' := Aside0.mk H
               clear H
               have hcz50_0 : wr.cell? ⟨gb231, 0, none⟩ = some (.slice A0_0 l0_0.length c0_0) := (blk_cell BK231.out 0).trans rfl
               have hcz50_1 : wr.cell? ⟨gb231, 1, none⟩ = some (.int .i64 a0_1) := (blk_cell BK231.out 1).trans rfl
               have hcz50_2 : wr.cell? ⟨gb231, 2, none⟩ = some (.int .i64 a0_2) := (blk_cell BK231.out 2).trans rfl
               have hcz50_3 : wr.cell? ⟨gb231, 3, none⟩ = some (.string a0_3) := (blk_cell BK231.out 3).trans rfl
               have hfz50_0 := blk_frozen BK231.out 0
               have hfz50_1 := blk_frozen BK231.out 1
               have hfz50_2 := blk_frozen BK231.out 2
               have hfz50_3 := blk_frozen BK231.out 3
               have p238 : 0 ≤ (a1 : Int) := of_decide_eq_true (by first | (with_reducible assumption) | assumption)
               have q238 : a1 < (l0_0.length : Int) := of_decide_eq_true (by first | (with_reducible assumption) | assumption)
               obtain ⟨ad238, A238_0, c238_0, e238, hx238_0, hl238_0, hi238_0⟩ := at_L3 HR0_0.out a1 p238 q238
               cases e238
               replace hx238_0 := cl_ HB.out hx238_0
               have HR238_0 := Aside0.mk hi238_0
               have HC238_0 := Aside0.mk hl238_0
               clear hi238_0 hl238_0
               replace p238 := eq_true p238
               replace q238 := eq_true q238
               have p239 : 0 ≤ (a1 : Int) := of_decide_eq_true (by first | (with_reducible assumption) | assumption)
               have q239 : a1 < (l0_0.length : Int) := of_decide_eq_true (by first | (with_reducible assumption) | assumption)
               obtain ⟨ad239, A239_0, c239_0, e239, hx239_0, hl239_0, hi239_0⟩ := at_L3 HR0_0.out a1 p239 q239
               obtain rfl : ad238 = ad239 := (by injection e239)
               replace hx239_0 := cl_ HB.out hx239_0
               have HR239_0 := Aside0.mk hi239_0
               have HC239_0 := Aside0.mk hl239_0
               clear hi239_0 hl239_0
               replace p239 := eq_true p239
               replace q239 := eq_true q239
               have ea_ := Option.some.inj (hx238_0.symm.trans hx239_0)
               injection ea_ with ea_ en_ ec_
               subst ea_
               subst ec_
               clear en_
               have p240 : 0 ≤ (x14_2 : Int) := of_decide_eq_true (by first | (with_reducible assumption) | assumption)
               have q240 : x14_2 < ((rd_L3 l0_0 a1).length : Int) := of_decide_eq_true (by first | (with_reducible assumption) | assumption)
               obtain ⟨ad240, e240, hx240_0, hx240_1, hx240_2, hx240_3, hx240_4⟩ := at_T32 HR239_0.out x14_2 p240 q240
               cases e240
               replace hx240_0 := cl_ HB.out hx240_0
               replace hx240_1 := cl_ HB.out hx240_1
               replace hx240_2 := cl_ HB.out hx240_2
               replace hx240_3 := cl_ HB.out hx240_3
               replace hx240_4 := cl_ HB.out hx240_4
               replace p240 := eq_true p240
               replace q240 := eq_true q240
               go_wp2_with (first | ((with_reducible refine gate_dst (N := 15) rfl ?_); (try (refine gate_guard (by rfl) ?_; dsimp only)); refine box_event ?hg (N := 15) ?hd (cs := #[.string (⟨#[]⟩ : ByteArray), .int .i64 0, .int .i64 0, .string (⟨#[]⟩ : ByteArray), .string (⟨#[]⟩ : ByteArray)]) (t := 32) ?hr ?_; (case hd => rfl); (case hg => rfl); (case hr => first | (go_simp; done) | (go_simp; rfl)); intro gb241 hg w51 hbox hb; have n0_ := Aside0.mk (Kd.R_below (Kd.R_elderB (by (with_reducible repeat (first | apply Kd.R_alloc | apply Kd.R_drewN | apply Kd.R_drew)); exact HO_12.out) gb241 (Nat.le_of_eq hg.symm)) hb); have n1_ := Aside0.mk (blk_below (g := gb231) (o := .cells #[.slice (some ad238) l0_0.length c0_0, .int .i64 a0_1, .int .i64 a0_2, .string a0_3] 24 (0, 0)) (by (with_reducible repeat (first | refine blk_drewN ?_ _ | refine blk_drew ?_ | refine blk_alloc ?_ _)); exact BK231.out) hb); have n2_ := Aside0.mk (below_step (by repeat (first | (with_reducible first | exact HB.out | apply below_alloc | apply pw_below_drewN | apply below_drew1 | refine below_set ?_ GE231.out) | exact HB.out)) hb); have n3_ := Aside0.mk (hbox); have n4_ := Aside0.mk ((by rw [hg]; exact (below_size (by repeat (first | (with_reducible first | exact HB.out | apply below_alloc | apply pw_below_drewN | apply below_drew1 | refine below_set ?_ GE231.out) | exact HB.out))) : w.heap.size ≤ gb241)); have n5_ := Aside0.mk ((by rw [hg]; exact (below_size (by repeat (first | (with_reducible first | exact HB.out | apply below_alloc | apply pw_below_drewN | apply below_drew1 | refine below_set ?_ GE231.out) | exact HB.out))) : w.heap.size ≤ gb241)); have n6_ := Aside0.mk ((by rw [hg]; exact Nat.ne_of_lt (blk_lt (g := gb231) (o := .cells #[.slice (some ad238) l0_0.length c0_0, .int .i64 a0_1, .int .i64 a0_2, .string a0_3] 24 (0, 0)) (by (with_reducible repeat (first | refine blk_drewN ?_ _ | refine blk_drew ?_ | refine blk_alloc ?_ _)); exact BK231.out)) : gb231 ≠ gb241)); have n7_ := Aside0.mk ((by rw [hg]; exact Nat.ne_of_gt (blk_lt (g := gb231) (o := .cells #[.slice (some ad238) l0_0.length c0_0, .int .i64 a0_1, .int .i64 a0_2, .string a0_3] 24 (0, 0)) (by (with_reducible repeat (first | refine blk_drewN ?_ _ | refine blk_drew ?_ | refine blk_alloc ?_ _)); exact BK231.out)) : gb241 ≠ gb231)); clear HO_12; clear BK231; clear HB; have HO_12 := n0_; have BK231 := n1_; have HB := n2_; have BK241 := n3_; have GW241 := n4_; have GE241 := n5_; have NB231_241 := n6_; have NB241_231 := n7_; clear n0_ n1_ n2_ n3_ n4_ n5_ n6_ n7_; clear hb hbox hg; have hnb52 := NB241_231.out; have hnc52 := NB231_241.out; have hcz53_0 : w51.cell? ⟨gb241, 0, none⟩ = some (.string (⟨#[]⟩ : ByteArray)) := (blk_cell BK241.out 0).trans rfl; have hcz53_1 : w51.cell? ⟨gb241, 1, none⟩ = some (.int .i64 0) := (blk_cell BK241.out 1).trans rfl; have hcz53_2 : w51.cell? ⟨gb241, 2, none⟩ = some (.int .i64 0) := (blk_cell BK241.out 2).trans rfl; have hcz53_3 : w51.cell? ⟨gb241, 3, none⟩ = some (.string (⟨#[]⟩ : ByteArray)) := (blk_cell BK241.out 3).trans rfl; have hcz53_4 : w51.cell? ⟨gb241, 4, none⟩ = some (.string (⟨#[]⟩ : ByteArray)) := (blk_cell BK241.out 4).trans rfl; have hfz53_0 := blk_frozen BK241.out 0; have hfz53_1 := blk_frozen BK241.out 1; have hfz53_2 := blk_frozen BK241.out 2; have hfz53_3 := blk_frozen BK241.out 3; have hfz53_4 := blk_frozen BK241.out 4))
               go_roundg k2
               case measure => have := HJ6.out; have := HK2.out; omega
               case rel => exact ⟨(wrap64 (x14_2 + 1)), (by first | rfl | (simp; done) | (simp [*]; done)), H', ⟨by have := HJ6.out; have := HK2.out; omega⟩, ⟨by (with_reducible repeat (first | apply Kd.R_alloc | apply Kd.R_drewN | apply Kd.R_drew)); exact Kd.R_mono (Kd.R_far (p := ⟨gb241, 4, none⟩) (Kd.R_far (p := ⟨gb241, 3, none⟩) (Kd.R_far (p := ⟨gb241, 2, none⟩) (Kd.R_far (p := ⟨gb241, 1, none⟩) (Kd.R_far (p := ⟨gb241, 0, none⟩) (Kd.R_mono HO_12.out (fun k_ hk => (⟨hk, hk.2⟩ : _ ∧ k_ ≠ gb241))) (fun _ hk => hk.2) (.string ((rd_T32 (rd_L3 l0_0 a1) x14_2).f0))) (fun _ hk => hk.2) (.int .i64 ((rd_T32 (rd_L3 l0_0 a1) x14_2).f1))) (fun _ hk => hk.2) (.int .i64 ((rd_T32 (rd_L3 l0_0 a1) x14_2).f2))) (fun _ hk => hk.2) (.string ((rd_T32 (rd_L3 l0_0 a1) x14_2).f3))) (fun _ hk => hk.2) (.string ((rd_T32 (rd_L3 l0_0 a1) x14_2).f4))) (fun _ hk => trivial)⟩, ⟨by (with_reducible repeat (first | refine blk_drewN ?_ _ | refine blk_drew ?_ | refine blk_alloc ?_ _)); refine blk_far ?_ NB231_241.out _; (with_reducible repeat (first | refine blk_drewN ?_ _ | refine blk_drew ?_ | refine blk_alloc ?_ _)); refine blk_far ?_ NB231_241.out _; (with_reducible repeat (first | refine blk_drewN ?_ _ | refine blk_drew ?_ | refine blk_alloc ?_ _)); refine blk_far ?_ NB231_241.out _; (with_reducible repeat (first | refine blk_drewN ?_ _ | refine blk_drew ?_ | refine blk_alloc ?_ _)); refine blk_far ?_ NB231_241.out _; (with_reducible repeat (first | refine blk_drewN ?_ _ | refine blk_drew ?_ | refine blk_alloc ?_ _)); refine blk_far ?_ NB231_241.out _; (with_reducible repeat (first | refine blk_drewN ?_ _ | refine blk_drew ?_ | refine blk_alloc ?_ _)); exact BK231.out⟩, ⟨by repeat (first | (with_reducible first | exact HB.out | apply below_alloc | apply pw_below_drewN | apply below_drew1 | refine below_set ?_ GE231.out | refine below_set ?_ GE241.out) | exact HB.out)⟩⟩
              ·
               rw [if_neg c49] at H
               have c49b0 : (Op.bytesLess (((rd_T32 (rd_L3 l0_0 a1) x14_2).f4).toList) a4.toList) = false := by simpa using c49
               clear c49
               replace H := Option.bind_eq_some_iff.mp H
               obtain ⟨t242, A540, H⟩ := H
               replace H : (if t242 = true then (millhandlaw16_VersionMeets.l0 k2 a1 a2 a3 a4 t234 (wrap64 (x14_2 + 1)) l0_0 a0_1 a0_2 a0_3) else (some false)) = some r := H
               have A54 := Aside0.mk A540
               clear A540
               by_cases c55 : t242 = true
               ·
                subst c55
                have H1 : (millhandlaw16_VersionMeets.l0 k2 a1 a2 a3 a4 t234 (wrap64 (x14_2 + 1)) l0_0 a0_1 a0_2 a0_3) = some r := by rw [if_pos rfl] at H; exact H
                clear H
                have H := H1
                clear H1
                have H' := Aside0.mk H
                clear H
                have hcz56_0 : wr.cell? ⟨gb231, 0, none⟩ = some (.slice A0_0 l0_0.length c0_0) := (blk_cell BK231.out 0).trans rfl
                have hcz56_1 : wr.cell? ⟨gb231, 1, none⟩ = some (.int .i64 a0_1) := (blk_cell BK231.out 1).trans rfl
                have hcz56_2 : wr.cell? ⟨gb231, 2, none⟩ = some (.int .i64 a0_2) := (blk_cell BK231.out 2).trans rfl
                have hcz56_3 : wr.cell? ⟨gb231, 3, none⟩ = some (.string a0_3) := (blk_cell BK231.out 3).trans rfl
                have hfz56_0 := blk_frozen BK231.out 0
                have hfz56_1 := blk_frozen BK231.out 1
                have hfz56_2 := blk_frozen BK231.out 2
                have hfz56_3 := blk_frozen BK231.out 3
                have p238 : 0 ≤ (a1 : Int) := of_decide_eq_true (by first | (with_reducible assumption) | assumption)
                have q238 : a1 < (l0_0.length : Int) := of_decide_eq_true (by first | (with_reducible assumption) | assumption)
                obtain ⟨ad238, A238_0, c238_0, e238, hx238_0, hl238_0, hi238_0⟩ := at_L3 HR0_0.out a1 p238 q238
                cases e238
                replace hx238_0 := cl_ HB.out hx238_0
                have HR238_0 := Aside0.mk hi238_0
                have HC238_0 := Aside0.mk hl238_0
                clear hi238_0 hl238_0
                replace p238 := eq_true p238
                replace q238 := eq_true q238
                have p239 : 0 ≤ (a1 : Int) := of_decide_eq_true (by first | (with_reducible assumption) | assumption)
                have q239 : a1 < (l0_0.length : Int) := of_decide_eq_true (by first | (with_reducible assumption) | assumption)
                obtain ⟨ad239, A239_0, c239_0, e239, hx239_0, hl239_0, hi239_0⟩ := at_L3 HR0_0.out a1 p239 q239
                obtain rfl : ad238 = ad239 := (by injection e239)
                replace hx239_0 := cl_ HB.out hx239_0
                have HR239_0 := Aside0.mk hi239_0
                have HC239_0 := Aside0.mk hl239_0
                clear hi239_0 hl239_0
                replace p239 := eq_true p239
                replace q239 := eq_true q239
                have ea_ := Option.some.inj (hx238_0.symm.trans hx239_0)
                injection ea_ with ea_ en_ ec_
                subst ea_
                subst ec_
                clear en_
                have p240 : 0 ≤ (x14_2 : Int) := of_decide_eq_true (by first | (with_reducible assumption) | assumption)
                have q240 : x14_2 < ((rd_L3 l0_0 a1).length : Int) := of_decide_eq_true (by first | (with_reducible assumption) | assumption)
                obtain ⟨ad240, e240, hx240_0, hx240_1, hx240_2, hx240_3, hx240_4⟩ := at_T32 HR239_0.out x14_2 p240 q240
                cases e240
                replace hx240_0 := cl_ HB.out hx240_0
                replace hx240_1 := cl_ HB.out hx240_1
                replace hx240_2 := cl_ HB.out hx240_2
                replace hx240_3 := cl_ HB.out hx240_3
                replace hx240_4 := cl_ HB.out hx240_4
                replace p240 := eq_true p240
                replace q240 := eq_true q240
                go_wp2_with (first | ((with_reducible refine gate_dst (N := 15) rfl ?_); (try (refine gate_guard (by rfl) ?_; dsimp only)); refine box_event ?hg (N := 15) ?hd (cs := #[.string (⟨#[]⟩ : ByteArray), .int .i64 0, .int .i64 0, .string (⟨#[]⟩ : ByteArray), .string (⟨#[]⟩ : ByteArray)]) (t := 32) ?hr ?_; (case hd => rfl); (case hg => rfl); (case hr => first | (go_simp; done) | (go_simp; rfl)); intro gb241 hg w57 hbox hb; have n0_ := Aside0.mk (Kd.R_below (Kd.R_elderB (by (with_reducible repeat (first | apply Kd.R_alloc | apply Kd.R_drewN | apply Kd.R_drew)); exact HO_12.out) gb241 (Nat.le_of_eq hg.symm)) hb); have n1_ := Aside0.mk (blk_below (g := gb231) (o := .cells #[.slice (some ad238) l0_0.length c0_0, .int .i64 a0_1, .int .i64 a0_2, .string a0_3] 24 (0, 0)) (by (with_reducible repeat (first | refine blk_drewN ?_ _ | refine blk_drew ?_ | refine blk_alloc ?_ _)); exact BK231.out) hb); have n2_ := Aside0.mk (below_step (by repeat (first | (with_reducible first | exact HB.out | apply below_alloc | apply pw_below_drewN | apply below_drew1 | refine below_set ?_ GE231.out) | exact HB.out)) hb); have n3_ := Aside0.mk (hbox); have n4_ := Aside0.mk ((by rw [hg]; exact (below_size (by repeat (first | (with_reducible first | exact HB.out | apply below_alloc | apply pw_below_drewN | apply below_drew1 | refine below_set ?_ GE231.out) | exact HB.out))) : w.heap.size ≤ gb241)); have n5_ := Aside0.mk ((by rw [hg]; exact (below_size (by repeat (first | (with_reducible first | exact HB.out | apply below_alloc | apply pw_below_drewN | apply below_drew1 | refine below_set ?_ GE231.out) | exact HB.out))) : w.heap.size ≤ gb241)); have n6_ := Aside0.mk ((by rw [hg]; exact Nat.ne_of_lt (blk_lt (g := gb231) (o := .cells #[.slice (some ad238) l0_0.length c0_0, .int .i64 a0_1, .int .i64 a0_2, .string a0_3] 24 (0, 0)) (by (with_reducible repeat (first | refine blk_drewN ?_ _ | refine blk_drew ?_ | refine blk_alloc ?_ _)); exact BK231.out)) : gb231 ≠ gb241)); have n7_ := Aside0.mk ((by rw [hg]; exact Nat.ne_of_gt (blk_lt (g := gb231) (o := .cells #[.slice (some ad238) l0_0.length c0_0, .int .i64 a0_1, .int .i64 a0_2, .string a0_3] 24 (0, 0)) (by (with_reducible repeat (first | refine blk_drewN ?_ _ | refine blk_drew ?_ | refine blk_alloc ?_ _)); exact BK231.out)) : gb241 ≠ gb231)); clear HO_12; clear BK231; clear HB; have HO_12 := n0_; have BK231 := n1_; have HB := n2_; have BK241 := n3_; have GW241 := n4_; have GE241 := n5_; have NB231_241 := n6_; have NB241_231 := n7_; clear n0_ n1_ n2_ n3_ n4_ n5_ n6_ n7_; clear hb hbox hg; have hnb58 := NB241_231.out; have hnc58 := NB231_241.out; have hcz59_0 : w57.cell? ⟨gb241, 0, none⟩ = some (.string (⟨#[]⟩ : ByteArray)) := (blk_cell BK241.out 0).trans rfl; have hcz59_1 : w57.cell? ⟨gb241, 1, none⟩ = some (.int .i64 0) := (blk_cell BK241.out 1).trans rfl; have hcz59_2 : w57.cell? ⟨gb241, 2, none⟩ = some (.int .i64 0) := (blk_cell BK241.out 2).trans rfl; have hcz59_3 : w57.cell? ⟨gb241, 3, none⟩ = some (.string (⟨#[]⟩ : ByteArray)) := (blk_cell BK241.out 3).trans rfl; have hcz59_4 : w57.cell? ⟨gb241, 4, none⟩ = some (.string (⟨#[]⟩ : ByteArray)) := (blk_cell BK241.out 4).trans rfl; have hfz59_0 := blk_frozen BK241.out 0; have hfz59_1 := blk_frozen BK241.out 1; have hfz59_2 := blk_frozen BK241.out 2; have hfz59_3 := blk_frozen BK241.out 3; have hfz59_4 := blk_frozen BK241.out 4; obtain ⟨Ao60, co60, eo60⟩ := Kd.R_slice HO_12.out; subst eo60) | (go_at_call 11; (with_reducible refine (millhandlaw16_in.calls k2 _ _ t234 ((rd_T32 (rd_L3 l0_0 a1) x14_2).f0) ((rd_T32 (rd_L3 l0_0 a1) x14_2).f1) ((rd_T32 (rd_L3 l0_0 a1) x14_2).f2) ((rd_T32 (rd_L3 l0_0 a1) x14_2).f3) ((rd_T32 (rd_L3 l0_0 a1) x14_2).f4) true _ ?side1 ?side2 A54.out).mono ?_); (case side1 => refine (Kd.R_reads' (e := 32) (base := w.heap.size) (ok := fun k_ => (True ∧ k_ ≠ gb241)) (n := t234.length) (c := co60) ?_).2.2; exact (by (with_reducible repeat (first | apply Kd.R_alloc | apply Kd.R_drewN | apply Kd.R_drew)); exact (Kd.R_mono (Kd.R_far (p := ⟨gb241, 4, none⟩) (Kd.R_far (p := ⟨gb241, 3, none⟩) (Kd.R_far (p := ⟨gb241, 2, none⟩) (Kd.R_far (p := ⟨gb241, 1, none⟩) (Kd.R_far (p := ⟨gb241, 0, none⟩) (Kd.R_mono HO_12.out (fun k_ hk => (⟨hk, hk.2⟩ : _ ∧ k_ ≠ gb241))) (fun _ hk => hk.2) (.string ((rd_T32 (rd_L3 l0_0 a1) x14_2).f0))) (fun _ hk => hk.2) (.int .i64 ((rd_T32 (rd_L3 l0_0 a1) x14_2).f1))) (fun _ hk => hk.2) (.int .i64 ((rd_T32 (rd_L3 l0_0 a1) x14_2).f2))) (fun _ hk => hk.2) (.string ((rd_T32 (rd_L3 l0_0 a1) x14_2).f3))) (fun _ hk => hk.2) (.string ((rd_T32 (rd_L3 l0_0 a1) x14_2).f4))) (fun _ h_ => h_.1)))); (case side2 => exact (Kd.R_reads' HO_12.out).2.1); rintro e w61 ⟨rfl, hb⟩; have n0_ := Aside0.mk (Kd.R_below (by (with_reducible repeat (first | apply Kd.R_alloc | apply Kd.R_drewN | apply Kd.R_drew)); exact (Kd.R_mono (Kd.R_far (p := ⟨gb241, 4, none⟩) (Kd.R_far (p := ⟨gb241, 3, none⟩) (Kd.R_far (p := ⟨gb241, 2, none⟩) (Kd.R_far (p := ⟨gb241, 1, none⟩) (Kd.R_far (p := ⟨gb241, 0, none⟩) (Kd.R_mono HO_12.out (fun k_ hk => (⟨hk, hk.2⟩ : _ ∧ k_ ≠ gb241))) (fun _ hk => hk.2) (.string ((rd_T32 (rd_L3 l0_0 a1) x14_2).f0))) (fun _ hk => hk.2) (.int .i64 ((rd_T32 (rd_L3 l0_0 a1) x14_2).f1))) (fun _ hk => hk.2) (.int .i64 ((rd_T32 (rd_L3 l0_0 a1) x14_2).f2))) (fun _ hk => hk.2) (.string ((rd_T32 (rd_L3 l0_0 a1) x14_2).f3))) (fun _ hk => hk.2) (.string ((rd_T32 (rd_L3 l0_0 a1) x14_2).f4))) (fun _ h_ => h_.1))) hb); have n1_ := Aside0.mk (blk_below (g := gb231) (o := .cells #[.slice (some ad238) l0_0.length c0_0, .int .i64 a0_1, .int .i64 a0_2, .string a0_3] 24 (0, 0)) (by (with_reducible repeat (first | refine blk_drewN ?_ _ | refine blk_drew ?_ | refine blk_alloc ?_ _)); refine blk_far ?_ NB231_241.out _; (with_reducible repeat (first | refine blk_drewN ?_ _ | refine blk_drew ?_ | refine blk_alloc ?_ _)); refine blk_far ?_ NB231_241.out _; (with_reducible repeat (first | refine blk_drewN ?_ _ | refine blk_drew ?_ | refine blk_alloc ?_ _)); refine blk_far ?_ NB231_241.out _; (with_reducible repeat (first | refine blk_drewN ?_ _ | refine blk_drew ?_ | refine blk_alloc ?_ _)); refine blk_far ?_ NB231_241.out _; (with_reducible repeat (first | refine blk_drewN ?_ _ | refine blk_drew ?_ | refine blk_alloc ?_ _)); refine blk_far ?_ NB231_241.out _; (with_reducible repeat (first | refine blk_drewN ?_ _ | refine blk_drew ?_ | refine blk_alloc ?_ _)); exact BK231.out) hb); have n2_ := Aside0.mk (blk_below (g := gb241) (o := .cells #[.string ((rd_T32 (rd_L3 l0_0 a1) x14_2).f0), .int .i64 ((rd_T32 (rd_L3 l0_0 a1) x14_2).f1), .int .i64 ((rd_T32 (rd_L3 l0_0 a1) x14_2).f2), .string ((rd_T32 (rd_L3 l0_0 a1) x14_2).f3), .string ((rd_T32 (rd_L3 l0_0 a1) x14_2).f4)] 32 (0, 0)) (by (with_reducible repeat (first | refine blk_drewN ?_ _ | refine blk_drew ?_ | refine blk_alloc ?_ _)); refine blk_put (cs := #[.string ((rd_T32 (rd_L3 l0_0 a1) x14_2).f0), .int .i64 ((rd_T32 (rd_L3 l0_0 a1) x14_2).f1), .int .i64 ((rd_T32 (rd_L3 l0_0 a1) x14_2).f2), .string ((rd_T32 (rd_L3 l0_0 a1) x14_2).f3), .string (⟨#[]⟩ : ByteArray)]) ?_ 4 _ rfl; (with_reducible repeat (first | refine blk_drewN ?_ _ | refine blk_drew ?_ | refine blk_alloc ?_ _)); refine blk_put (cs := #[.string ((rd_T32 (rd_L3 l0_0 a1) x14_2).f0), .int .i64 ((rd_T32 (rd_L3 l0_0 a1) x14_2).f1), .int .i64 ((rd_T32 (rd_L3 l0_0 a1) x14_2).f2), .string (⟨#[]⟩ : ByteArray), .string (⟨#[]⟩ : ByteArray)]) ?_ 3 _ rfl; (with_reducible repeat (first | refine blk_drewN ?_ _ | refine blk_drew ?_ | refine blk_alloc ?_ _)); refine blk_put (cs := #[.string ((rd_T32 (rd_L3 l0_0 a1) x14_2).f0), .int .i64 ((rd_T32 (rd_L3 l0_0 a1) x14_2).f1), .int .i64 0, .string (⟨#[]⟩ : ByteArray), .string (⟨#[]⟩ : ByteArray)]) ?_ 2 _ rfl; (with_reducible repeat (first | refine blk_drewN ?_ _ | refine blk_drew ?_ | refine blk_alloc ?_ _)); refine blk_put (cs := #[.string ((rd_T32 (rd_L3 l0_0 a1) x14_2).f0), .int .i64 0, .int .i64 0, .string (⟨#[]⟩ : ByteArray), .string (⟨#[]⟩ : ByteArray)]) ?_ 1 _ rfl; (with_reducible repeat (first | refine blk_drewN ?_ _ | refine blk_drew ?_ | refine blk_alloc ?_ _)); refine blk_put (cs := #[.string (⟨#[]⟩ : ByteArray), .int .i64 0, .int .i64 0, .string (⟨#[]⟩ : ByteArray), .string (⟨#[]⟩ : ByteArray)]) ?_ 0 _ rfl; (with_reducible repeat (first | refine blk_drewN ?_ _ | refine blk_drew ?_ | refine blk_alloc ?_ _)); exact BK241.out) hb); have n3_ := Aside0.mk (below_step (by repeat (first | (with_reducible first | exact HB.out | apply below_alloc | apply pw_below_drewN | apply below_drew1 | refine below_set ?_ GE231.out | refine below_set ?_ GE241.out) | exact HB.out)) hb); clear HO_12; clear BK231; clear BK241; clear HB; have HO_12 := n0_; have BK231 := n1_; have BK241 := n2_; have HB := n3_; clear n0_ n1_ n2_ n3_; (try clear hb); (try clear hb2); (try clear hk); (try clear hi)))
                go_roundg k2
                case measure => have := HJ6.out; have := HK2.out; omega
                case rel => exact ⟨(wrap64 (x14_2 + 1)), (by first | rfl | (simp; done) | (simp [*]; done)), H', ⟨by have := HJ6.out; have := HK2.out; omega⟩, ⟨by (with_reducible repeat (first | apply Kd.R_alloc | apply Kd.R_drewN | apply Kd.R_drew)); exact Kd.R_mono HO_12.out (fun _ hk => trivial)⟩, ⟨by (with_reducible repeat (first | refine blk_drewN ?_ _ | refine blk_drew ?_ | refine blk_alloc ?_ _)); exact BK231.out⟩, ⟨by repeat (first | (with_reducible first | exact HB.out | apply below_alloc | apply pw_below_drewN | apply below_drew1 | refine below_set ?_ GE231.out | refine below_set ?_ GE241.out) | exact HB.out)⟩⟩
               ·
                replace c55 := Bool.eq_false_iff.mpr c55
                subst c55
                have H1 : (some false) = some r := by rw [if_neg (show ¬ (false = true) by decide)] at H; exact H
                clear H
                have H := H1
                clear H1
                obtain rfl := Option.some.inj H
                have hcz62_0 : wr.cell? ⟨gb231, 0, none⟩ = some (.slice A0_0 l0_0.length c0_0) := (blk_cell BK231.out 0).trans rfl
                have hcz62_1 : wr.cell? ⟨gb231, 1, none⟩ = some (.int .i64 a0_1) := (blk_cell BK231.out 1).trans rfl
                have hcz62_2 : wr.cell? ⟨gb231, 2, none⟩ = some (.int .i64 a0_2) := (blk_cell BK231.out 2).trans rfl
                have hcz62_3 : wr.cell? ⟨gb231, 3, none⟩ = some (.string a0_3) := (blk_cell BK231.out 3).trans rfl
                have hfz62_0 := blk_frozen BK231.out 0
                have hfz62_1 := blk_frozen BK231.out 1
                have hfz62_2 := blk_frozen BK231.out 2
                have hfz62_3 := blk_frozen BK231.out 3
                have p238 : 0 ≤ (a1 : Int) := of_decide_eq_true (by first | (with_reducible assumption) | assumption)
                have q238 : a1 < (l0_0.length : Int) := of_decide_eq_true (by first | (with_reducible assumption) | assumption)
                obtain ⟨ad238, A238_0, c238_0, e238, hx238_0, hl238_0, hi238_0⟩ := at_L3 HR0_0.out a1 p238 q238
                cases e238
                replace hx238_0 := cl_ HB.out hx238_0
                have HR238_0 := Aside0.mk hi238_0
                have HC238_0 := Aside0.mk hl238_0
                clear hi238_0 hl238_0
                replace p238 := eq_true p238
                replace q238 := eq_true q238
                have p239 : 0 ≤ (a1 : Int) := of_decide_eq_true (by first | (with_reducible assumption) | assumption)
                have q239 : a1 < (l0_0.length : Int) := of_decide_eq_true (by first | (with_reducible assumption) | assumption)
                obtain ⟨ad239, A239_0, c239_0, e239, hx239_0, hl239_0, hi239_0⟩ := at_L3 HR0_0.out a1 p239 q239
                obtain rfl : ad238 = ad239 := (by injection e239)
                replace hx239_0 := cl_ HB.out hx239_0
                have HR239_0 := Aside0.mk hi239_0
                have HC239_0 := Aside0.mk hl239_0
                clear hi239_0 hl239_0
                replace p239 := eq_true p239
                replace q239 := eq_true q239
                have ea_ := Option.some.inj (hx238_0.symm.trans hx239_0)
                injection ea_ with ea_ en_ ec_
                subst ea_
                subst ec_
                clear en_
                have p240 : 0 ≤ (x14_2 : Int) := of_decide_eq_true (by first | (with_reducible assumption) | assumption)
                have q240 : x14_2 < ((rd_L3 l0_0 a1).length : Int) := of_decide_eq_true (by first | (with_reducible assumption) | assumption)
                obtain ⟨ad240, e240, hx240_0, hx240_1, hx240_2, hx240_3, hx240_4⟩ := at_T32 HR239_0.out x14_2 p240 q240
                cases e240
                replace hx240_0 := cl_ HB.out hx240_0
                replace hx240_1 := cl_ HB.out hx240_1
                replace hx240_2 := cl_ HB.out hx240_2
                replace hx240_3 := cl_ HB.out hx240_3
                replace hx240_4 := cl_ HB.out hx240_4
                replace p240 := eq_true p240
                replace q240 := eq_true q240
                go_wp2_with (first | ((with_reducible refine gate_dst (N := 15) rfl ?_); (try (refine gate_guard (by rfl) ?_; dsimp only)); refine box_event ?hg (N := 15) ?hd (cs := #[.string (⟨#[]⟩ : ByteArray), .int .i64 0, .int .i64 0, .string (⟨#[]⟩ : ByteArray), .string (⟨#[]⟩ : ByteArray)]) (t := 32) ?hr ?_; (case hd => rfl); (case hg => rfl); (case hr => first | (go_simp; done) | (go_simp; rfl)); intro gb241 hg w63 hbox hb; have n0_ := Aside0.mk (Kd.R_below (Kd.R_elderB (by (with_reducible repeat (first | apply Kd.R_alloc | apply Kd.R_drewN | apply Kd.R_drew)); exact HO_12.out) gb241 (Nat.le_of_eq hg.symm)) hb); have n1_ := Aside0.mk (blk_below (g := gb231) (o := .cells #[.slice (some ad238) l0_0.length c0_0, .int .i64 a0_1, .int .i64 a0_2, .string a0_3] 24 (0, 0)) (by (with_reducible repeat (first | refine blk_drewN ?_ _ | refine blk_drew ?_ | refine blk_alloc ?_ _)); exact BK231.out) hb); have n2_ := Aside0.mk (below_step (by repeat (first | (with_reducible first | exact HB.out | apply below_alloc | apply pw_below_drewN | apply below_drew1 | refine below_set ?_ GE231.out) | exact HB.out)) hb); have n3_ := Aside0.mk (hbox); have n4_ := Aside0.mk ((by rw [hg]; exact (below_size (by repeat (first | (with_reducible first | exact HB.out | apply below_alloc | apply pw_below_drewN | apply below_drew1 | refine below_set ?_ GE231.out) | exact HB.out))) : w.heap.size ≤ gb241)); have n5_ := Aside0.mk ((by rw [hg]; exact (below_size (by repeat (first | (with_reducible first | exact HB.out | apply below_alloc | apply pw_below_drewN | apply below_drew1 | refine below_set ?_ GE231.out) | exact HB.out))) : w.heap.size ≤ gb241)); have n6_ := Aside0.mk ((by rw [hg]; exact Nat.ne_of_lt (blk_lt (g := gb231) (o := .cells #[.slice (some ad238) l0_0.length c0_0, .int .i64 a0_1, .int .i64 a0_2, .string a0_3] 24 (0, 0)) (by (with_reducible repeat (first | refine blk_drewN ?_ _ | refine blk_drew ?_ | refine blk_alloc ?_ _)); exact BK231.out)) : gb231 ≠ gb241)); have n7_ := Aside0.mk ((by rw [hg]; exact Nat.ne_of_gt (blk_lt (g := gb231) (o := .cells #[.slice (some ad238) l0_0.length c0_0, .int .i64 a0_1, .int .i64 a0_2, .string a0_3] 24 (0, 0)) (by (with_reducible repeat (first | refine blk_drewN ?_ _ | refine blk_drew ?_ | refine blk_alloc ?_ _)); exact BK231.out)) : gb241 ≠ gb231)); clear HO_12; clear BK231; clear HB; have HO_12 := n0_; have BK231 := n1_; have HB := n2_; have BK241 := n3_; have GW241 := n4_; have GE241 := n5_; have NB231_241 := n6_; have NB241_231 := n7_; clear n0_ n1_ n2_ n3_ n4_ n5_ n6_ n7_; clear hb hbox hg; have hnb64 := NB241_231.out; have hnc64 := NB231_241.out; have hcz65_0 : w63.cell? ⟨gb241, 0, none⟩ = some (.string (⟨#[]⟩ : ByteArray)) := (blk_cell BK241.out 0).trans rfl; have hcz65_1 : w63.cell? ⟨gb241, 1, none⟩ = some (.int .i64 0) := (blk_cell BK241.out 1).trans rfl; have hcz65_2 : w63.cell? ⟨gb241, 2, none⟩ = some (.int .i64 0) := (blk_cell BK241.out 2).trans rfl; have hcz65_3 : w63.cell? ⟨gb241, 3, none⟩ = some (.string (⟨#[]⟩ : ByteArray)) := (blk_cell BK241.out 3).trans rfl; have hcz65_4 : w63.cell? ⟨gb241, 4, none⟩ = some (.string (⟨#[]⟩ : ByteArray)) := (blk_cell BK241.out 4).trans rfl; have hfz65_0 := blk_frozen BK241.out 0; have hfz65_1 := blk_frozen BK241.out 1; have hfz65_2 := blk_frozen BK241.out 2; have hfz65_3 := blk_frozen BK241.out 3; have hfz65_4 := blk_frozen BK241.out 4; obtain ⟨Ao66, co66, eo66⟩ := Kd.R_slice HO_12.out; subst eo66) | (go_at_call 11; (with_reducible refine (millhandlaw16_in.calls k2 _ _ t234 ((rd_T32 (rd_L3 l0_0 a1) x14_2).f0) ((rd_T32 (rd_L3 l0_0 a1) x14_2).f1) ((rd_T32 (rd_L3 l0_0 a1) x14_2).f2) ((rd_T32 (rd_L3 l0_0 a1) x14_2).f3) ((rd_T32 (rd_L3 l0_0 a1) x14_2).f4) false _ ?side1 ?side2 A54.out).mono ?_); (case side1 => refine (Kd.R_reads' (e := 32) (base := w.heap.size) (ok := fun k_ => (True ∧ k_ ≠ gb241)) (n := t234.length) (c := co66) ?_).2.2; exact (by (with_reducible repeat (first | apply Kd.R_alloc | apply Kd.R_drewN | apply Kd.R_drew)); exact (Kd.R_mono (Kd.R_far (p := ⟨gb241, 4, none⟩) (Kd.R_far (p := ⟨gb241, 3, none⟩) (Kd.R_far (p := ⟨gb241, 2, none⟩) (Kd.R_far (p := ⟨gb241, 1, none⟩) (Kd.R_far (p := ⟨gb241, 0, none⟩) (Kd.R_mono HO_12.out (fun k_ hk => (⟨hk, hk.2⟩ : _ ∧ k_ ≠ gb241))) (fun _ hk => hk.2) (.string ((rd_T32 (rd_L3 l0_0 a1) x14_2).f0))) (fun _ hk => hk.2) (.int .i64 ((rd_T32 (rd_L3 l0_0 a1) x14_2).f1))) (fun _ hk => hk.2) (.int .i64 ((rd_T32 (rd_L3 l0_0 a1) x14_2).f2))) (fun _ hk => hk.2) (.string ((rd_T32 (rd_L3 l0_0 a1) x14_2).f3))) (fun _ hk => hk.2) (.string ((rd_T32 (rd_L3 l0_0 a1) x14_2).f4))) (fun _ h_ => h_.1)))); (case side2 => exact (Kd.R_reads' HO_12.out).2.1); rintro e w67 ⟨rfl, hb⟩; have n0_ := Aside0.mk (Kd.R_below (by (with_reducible repeat (first | apply Kd.R_alloc | apply Kd.R_drewN | apply Kd.R_drew)); exact (Kd.R_mono (Kd.R_far (p := ⟨gb241, 4, none⟩) (Kd.R_far (p := ⟨gb241, 3, none⟩) (Kd.R_far (p := ⟨gb241, 2, none⟩) (Kd.R_far (p := ⟨gb241, 1, none⟩) (Kd.R_far (p := ⟨gb241, 0, none⟩) (Kd.R_mono HO_12.out (fun k_ hk => (⟨hk, hk.2⟩ : _ ∧ k_ ≠ gb241))) (fun _ hk => hk.2) (.string ((rd_T32 (rd_L3 l0_0 a1) x14_2).f0))) (fun _ hk => hk.2) (.int .i64 ((rd_T32 (rd_L3 l0_0 a1) x14_2).f1))) (fun _ hk => hk.2) (.int .i64 ((rd_T32 (rd_L3 l0_0 a1) x14_2).f2))) (fun _ hk => hk.2) (.string ((rd_T32 (rd_L3 l0_0 a1) x14_2).f3))) (fun _ hk => hk.2) (.string ((rd_T32 (rd_L3 l0_0 a1) x14_2).f4))) (fun _ h_ => h_.1))) hb); have n1_ := Aside0.mk (blk_below (g := gb231) (o := .cells #[.slice (some ad238) l0_0.length c0_0, .int .i64 a0_1, .int .i64 a0_2, .string a0_3] 24 (0, 0)) (by (with_reducible repeat (first | refine blk_drewN ?_ _ | refine blk_drew ?_ | refine blk_alloc ?_ _)); refine blk_far ?_ NB231_241.out _; (with_reducible repeat (first | refine blk_drewN ?_ _ | refine blk_drew ?_ | refine blk_alloc ?_ _)); refine blk_far ?_ NB231_241.out _; (with_reducible repeat (first | refine blk_drewN ?_ _ | refine blk_drew ?_ | refine blk_alloc ?_ _)); refine blk_far ?_ NB231_241.out _; (with_reducible repeat (first | refine blk_drewN ?_ _ | refine blk_drew ?_ | refine blk_alloc ?_ _)); refine blk_far ?_ NB231_241.out _; (with_reducible repeat (first | refine blk_drewN ?_ _ | refine blk_drew ?_ | refine blk_alloc ?_ _)); refine blk_far ?_ NB231_241.out _; (with_reducible repeat (first | refine blk_drewN ?_ _ | refine blk_drew ?_ | refine blk_alloc ?_ _)); exact BK231.out) hb); have n2_ := Aside0.mk (blk_below (g := gb241) (o := .cells #[.string ((rd_T32 (rd_L3 l0_0 a1) x14_2).f0), .int .i64 ((rd_T32 (rd_L3 l0_0 a1) x14_2).f1), .int .i64 ((rd_T32 (rd_L3 l0_0 a1) x14_2).f2), .string ((rd_T32 (rd_L3 l0_0 a1) x14_2).f3), .string ((rd_T32 (rd_L3 l0_0 a1) x14_2).f4)] 32 (0, 0)) (by (with_reducible repeat (first | refine blk_drewN ?_ _ | refine blk_drew ?_ | refine blk_alloc ?_ _)); refine blk_put (cs := #[.string ((rd_T32 (rd_L3 l0_0 a1) x14_2).f0), .int .i64 ((rd_T32 (rd_L3 l0_0 a1) x14_2).f1), .int .i64 ((rd_T32 (rd_L3 l0_0 a1) x14_2).f2), .string ((rd_T32 (rd_L3 l0_0 a1) x14_2).f3), .string (⟨#[]⟩ : ByteArray)]) ?_ 4 _ rfl; (with_reducible repeat (first | refine blk_drewN ?_ _ | refine blk_drew ?_ | refine blk_alloc ?_ _)); refine blk_put (cs := #[.string ((rd_T32 (rd_L3 l0_0 a1) x14_2).f0), .int .i64 ((rd_T32 (rd_L3 l0_0 a1) x14_2).f1), .int .i64 ((rd_T32 (rd_L3 l0_0 a1) x14_2).f2), .string (⟨#[]⟩ : ByteArray), .string (⟨#[]⟩ : ByteArray)]) ?_ 3 _ rfl; (with_reducible repeat (first | refine blk_drewN ?_ _ | refine blk_drew ?_ | refine blk_alloc ?_ _)); refine blk_put (cs := #[.string ((rd_T32 (rd_L3 l0_0 a1) x14_2).f0), .int .i64 ((rd_T32 (rd_L3 l0_0 a1) x14_2).f1), .int .i64 0, .string (⟨#[]⟩ : ByteArray), .string (⟨#[]⟩ : ByteArray)]) ?_ 2 _ rfl; (with_reducible repeat (first | refine blk_drewN ?_ _ | refine blk_drew ?_ | refine blk_alloc ?_ _)); refine blk_put (cs := #[.string ((rd_T32 (rd_L3 l0_0 a1) x14_2).f0), .int .i64 0, .int .i64 0, .string (⟨#[]⟩ : ByteArray), .string (⟨#[]⟩ : ByteArray)]) ?_ 1 _ rfl; (with_reducible repeat (first | refine blk_drewN ?_ _ | refine blk_drew ?_ | refine blk_alloc ?_ _)); refine blk_put (cs := #[.string (⟨#[]⟩ : ByteArray), .int .i64 0, .int .i64 0, .string (⟨#[]⟩ : ByteArray), .string (⟨#[]⟩ : ByteArray)]) ?_ 0 _ rfl; (with_reducible repeat (first | refine blk_drewN ?_ _ | refine blk_drew ?_ | refine blk_alloc ?_ _)); exact BK241.out) hb); have n3_ := Aside0.mk (below_step (by repeat (first | (with_reducible first | exact HB.out | apply below_alloc | apply pw_below_drewN | apply below_drew1 | refine below_set ?_ GE231.out | refine below_set ?_ GE241.out) | exact HB.out)) hb); clear HO_12; clear BK231; clear BK241; clear HB; have HO_12 := n0_; have BK231 := n1_; have BK241 := n2_; have HB := n3_; clear n0_ n1_ n2_ n3_; (try clear hb); (try clear hb2); (try clear hk); (try clear hi)))
                go_ret
                exact ⟨by first | rfl | (simp [errW_none, errW_some] <;> rfl) | (simp [*, errW_none, errW_some] <;> rfl) | exact ret_ie _ | (simp [*, errW_none, errW_some, bne]; done), by repeat (first | (with_reducible first | exact HB.out | apply below_alloc | apply pw_below_drewN | apply below_drew1 | refine below_set ?_ GE231.out | refine below_set ?_ GE241.out) | exact HB.out)⟩
          ·
           rw [if_neg c33] at H
           exact absurd H (by simp)
         ·
          rw [if_neg c32] at H
          have c32b0 : decide (x14_2 < ((rd_L3 l0_0 a1).length : Int)) = false := decide_eq_false c32
          clear c32
          have H' := Aside0.mk H
          clear H
          have hcz68_0 : wr.cell? ⟨gb231, 0, none⟩ = some (.slice A0_0 l0_0.length c0_0) := (blk_cell BK231.out 0).trans rfl
          have hcz68_1 : wr.cell? ⟨gb231, 1, none⟩ = some (.int .i64 a0_1) := (blk_cell BK231.out 1).trans rfl
          have hcz68_2 : wr.cell? ⟨gb231, 2, none⟩ = some (.int .i64 a0_2) := (blk_cell BK231.out 2).trans rfl
          have hcz68_3 : wr.cell? ⟨gb231, 3, none⟩ = some (.string a0_3) := (blk_cell BK231.out 3).trans rfl
          have hfz68_0 := blk_frozen BK231.out 0
          have hfz68_1 := blk_frozen BK231.out 1
          have hfz68_2 := blk_frozen BK231.out 2
          have hfz68_3 := blk_frozen BK231.out 3
          have p238 : 0 ≤ (a1 : Int) := of_decide_eq_true (by first | (with_reducible assumption) | assumption)
          have q238 : a1 < (l0_0.length : Int) := of_decide_eq_true (by first | (with_reducible assumption) | assumption)
          obtain ⟨ad238, A238_0, c238_0, e238, hx238_0, hl238_0, hi238_0⟩ := at_L3 HR0_0.out a1 p238 q238
          cases e238
          replace hx238_0 := cl_ HB.out hx238_0
          have HR238_0 := Aside0.mk hi238_0
          have HC238_0 := Aside0.mk hl238_0
          clear hi238_0 hl238_0
          replace p238 := eq_true p238
          replace q238 := eq_true q238
          go_wp2
          go_loopg [16] k2 (fun kq v16 w' => ∃ (x16_3 : Int), v16 = .int .i64 x16_3 ∧ Aside0 (millhandlaw16_VersionMeets.l1 kq a1 a2 a3 t234 x16_3 l0_0 a0_1 a0_2 a0_3 = some r) ∧ Aside0 (kq ≤ k2) ∧ Aside0 (Kd.R k32 32 w' w.heap.size (fun _ => True) v235 t234) ∧ Aside0 (w'.heap[gb231]? = some (.cells #[(.slice (some ad238) l0_0.length c0_0), .int .i64 a0_1, .int .i64 a0_2, .string a0_3] 24 (0, 0))) ∧ Aside0 (Below w.heap.size w w'))
          case atStart => exact ⟨(0), (by first | rfl | (simp; done) | (simp [*]; done)), H', ⟨Nat.le_refl _⟩, ⟨by (with_reducible repeat (first | apply Kd.R_alloc | apply Kd.R_drewN | apply Kd.R_drew)); exact HO_12.out⟩, ⟨by (with_reducible repeat (first | refine blk_drewN ?_ _ | refine blk_drew ?_ | refine blk_alloc ?_ _)); exact BK231.out⟩, ⟨by repeat (first | (with_reducible first | exact HB.out | apply below_alloc | apply pw_below_drewN | apply below_drew1 | refine below_set ?_ GE231.out) | exact HB.out)⟩⟩
          case round =>
           clear H'
           try clear c1
           try clear c2
           try clear p2
           try clear q2
           try clear hx2
           try clear c3
           try clear c4
           try clear c5
           try clear c6
           try clear p6
           try clear c8
           try clear c9
           try clear c10
           try clear c11
           try clear c14
           try clear c14b0
           try clear c14b1
           try clear c17
           try clear c17b0
           try clear c17b1
           try clear c20
           try clear c20b0
           try clear c20b1
           try clear c23
           try clear p23
           try clear q23
           try clear hx23
           try clear p24
           try clear q24
           try clear hx24
           try clear c25
           try clear c27
           try clear c27b0
           try clear c27b1
           try clear c30
           try clear c30b0
           try clear c31
           try clear c31b0
           try clear c32
           try clear c32b0
           try clear c33
           try clear c33b0
           try clear c34
           try clear c34b0
           try clear c37
           try clear c39
           try clear c39b0
           try clear c42
           try clear c44
           try clear c44b0
           try clear c47
           try clear c49
           try clear c49b0
           try clear c52
           try clear c55
           try clear c58
           try clear c64
           try clear p64
           try clear hcz12_0
           try clear hcz12_1
           try clear hcz12_2
           try clear hcz12_3
           try clear hcz15_0
           try clear hcz15_1
           try clear hcz15_2
           try clear hcz15_3
           try clear hcz18_0
           try clear hcz18_1
           try clear hcz18_2
           try clear hcz18_3
           try clear hcz21_0
           try clear hcz21_1
           try clear hcz21_2
           try clear hcz21_3
           try clear hcz23_0
           try clear hcz23_1
           try clear hcz23_2
           try clear hcz23_3
           try clear hcz28_0
           try clear hcz28_1
           try clear hcz28_2
           try clear hcz28_3
           try clear hcz35_0
           try clear hcz35_1
           try clear hcz35_2
           try clear hcz35_3
           try clear hcz38_0
           try clear hcz38_1
           try clear hcz38_2
           try clear hcz38_3
           try clear hcz38_4
           try clear hcz40_0
           try clear hcz40_1
           try clear hcz40_2
           try clear hcz40_3
           try clear hcz43_0
           try clear hcz43_1
           try clear hcz43_2
           try clear hcz43_3
           try clear hcz43_4
           try clear hcz45_0
           try clear hcz45_1
           try clear hcz45_2
           try clear hcz45_3
           try clear hcz48_0
           try clear hcz48_1
           try clear hcz48_2
           try clear hcz48_3
           try clear hcz48_4
           try clear hcz50_0
           try clear hcz50_1
           try clear hcz50_2
           try clear hcz50_3
           try clear hcz53_0
           try clear hcz53_1
           try clear hcz53_2
           try clear hcz53_3
           try clear hcz53_4
           try clear hcz56_0
           try clear hcz56_1
           try clear hcz56_2
           try clear hcz56_3
           try clear hcz59_0
           try clear hcz59_1
           try clear hcz59_2
           try clear hcz59_3
           try clear hcz59_4
           try clear hcz62_0
           try clear hcz62_1
           try clear hcz62_2
           try clear hcz62_3
           try clear hcz65_0
           try clear hcz65_1
           try clear hcz65_2
           try clear hcz65_3
           try clear hcz65_4
           try clear hcz68_0
           try clear hcz68_1
           try clear hcz68_2
           try clear hcz68_3
           try clear hfz12_0
           try clear hfz12_1
           try clear hfz12_2
           try clear hfz12_3
           try clear hfz15_0
           try clear hfz15_1
           try clear hfz15_2
           try clear hfz15_3
           try clear hfz18_0
           try clear hfz18_1
           try clear hfz18_2
           try clear hfz18_3
           try clear hfz21_0
           try clear hfz21_1
           try clear hfz21_2
           try clear hfz21_3
           try clear hfz23_0
           try clear hfz23_1
           try clear hfz23_2
           try clear hfz23_3
           try clear hfz28_0
           try clear hfz28_1
           try clear hfz28_2
           try clear hfz28_3
           try clear hfz35_0
           try clear hfz35_1
           try clear hfz35_2
           try clear hfz35_3
           try clear hfz38_0
           try clear hfz38_1
           try clear hfz38_2
           try clear hfz38_3
           try clear hfz38_4
           try clear hfz40_0
           try clear hfz40_1
           try clear hfz40_2
           try clear hfz40_3
           try clear hfz43_0
           try clear hfz43_1
           try clear hfz43_2
           try clear hfz43_3
           try clear hfz43_4
           try clear hfz45_0
           try clear hfz45_1
           try clear hfz45_2
           try clear hfz45_3
           try clear hfz48_0
           try clear hfz48_1
           try clear hfz48_2
           try clear hfz48_3
           try clear hfz48_4
           try clear hfz50_0
           try clear hfz50_1
           try clear hfz50_2
           try clear hfz50_3
           try clear hfz53_0
           try clear hfz53_1
           try clear hfz53_2
           try clear hfz53_3
           try clear hfz53_4
           try clear hfz56_0
           try clear hfz56_1
           try clear hfz56_2
           try clear hfz56_3
           try clear hfz59_0
           try clear hfz59_1
           try clear hfz59_2
           try clear hfz59_3
           try clear hfz59_4
           try clear hfz62_0
           try clear hfz62_1
           try clear hfz62_2
           try clear hfz62_3
           try clear hfz65_0
           try clear hfz65_1
           try clear hfz65_2
           try clear hfz65_3
           try clear hfz65_4
           try clear hfz68_0
           try clear hfz68_1
           try clear hfz68_2
           try clear hfz68_3
           try clear hx238_0
           try clear hx239_0
           try clear hx240_0
           try clear hx240_1
           try clear hx240_2
           try clear hx240_3
           try clear hx240_4
           try clear p2
           try clear p238
           try clear p239
           try clear p240
           try clear q238
           try clear q239
           try clear q240
           obtain ⟨x16_3, rfl, HA, HK3, HO_12, BK231, HB⟩ := hrel
           cases gk with
           | zero => exact absurd HA.out (by simp [millhandlaw16_VersionMeets.l1])
           | succ k3 =>
            have H := HA.out
            clear HA
            simp only [millhandlaw16_VersionMeets.l1] at H
            by_cases c69 : x16_3 < (t234.length : Int)
            ·
             rw [if_pos c69] at H
             have c69b0 : decide (x16_3 < (t234.length : Int)) = true := decide_eq_true c69
             clear c69
             by_cases c70 : ((Op.bytesLess a3.toList a2.toList) = true)
             ·
              rw [if_pos c70] at H
              have c70b0 : (Op.bytesLess a3.toList a2.toList) = true := c70
              clear c70
              by_cases c71 : 0 ≤ x16_3
              ·
               rw [if_pos c71] at H
               have c71b0 : decide (0 ≤ x16_3) = true := decide_eq_true c71
               clear c71
               replace H := Option.bind_eq_some_iff.mp H
               obtain ⟨t244, A720, H⟩ := H
               replace H : (if t244 = a1 then (millhandlaw16_VersionMeets.l1 k3 a1 a2 a3 t234 (wrap64 (x16_3 + 1)) l0_0 a0_1 a0_2 a0_3) else (some false)) = some r := H
               have A72 := Aside0.mk A720
               clear A720
               by_cases c73 : t244 = a1
               ·
                rw [if_pos c73] at H
                have c73b0 : (t244 == a1) = true := beq_iff_eq.mpr c73
                have c73b1 : (t244 != a1) = false := bne_eq_false_iff_eq.mpr c73
                clear c73
                have H' := Aside0.mk H
                clear H
                obtain ⟨Ao74, co74, eo74⟩ := Kd.R_slice HO_12.out
                subst eo74
                try go_wp2
                have n0_ := Aside0.mk (Kd.R_drew HO_12.out)
                have n1_ := Aside0.mk (blk_drew BK231.out)
                have n2_ := Aside0.mk (below_drew1 HB.out)
                clear HO_12
                clear BK231
                clear HB
                have HO_12 := n0_
                have BK231 := n1_
                have HB := n2_
                clear n0_ n1_ n2_
                have p243 : 0 ≤ (x16_3 : Int) := of_decide_eq_true (by first | (with_reducible assumption) | assumption)
                have q243 : x16_3 < (t234.length : Int) := of_decide_eq_true (by first | (with_reducible assumption) | assumption)
                obtain ⟨ad243, e243, hx243_0, hx243_1, hx243_2, hx243_3, hx243_4⟩ := at_T32 (Kd.R_reads' HO_12.out).2.2 x16_3 p243 q243
                cases e243
                replace p243 := eq_true p243
                replace q243 := eq_true q243
                refine start_ (n := 30) (S := fun w' => w'.cell? ⟨gb231, 0, none⟩ = some (.slice (some ad238) l0_0.length c0_0) ∧ w'.cell? ⟨gb231, 1, none⟩ = some (.int .i64 a0_1) ∧ w'.cell? ⟨gb231, 2, none⟩ = some (.int .i64 a0_2) ∧ w'.cell? ⟨gb231, 3, none⟩ = some (.string a0_3) ∧ w'.cell? (ad243.add ((x16_3).toNat * 5)) = some (.string ((rd_T32 t234 x16_3).f0)) ∧ w'.cell? ⟨(ad243.add ((x16_3).toNat * 5)).block, (ad243.add ((x16_3).toNat * 5)).off + 1, none⟩ = some (.int .i64 ((rd_T32 t234 x16_3).f1)) ∧ w'.cell? ⟨(ad243.add ((x16_3).toNat * 5)).block, (ad243.add ((x16_3).toNat * 5)).off + 2, none⟩ = some (.int .i64 ((rd_T32 t234 x16_3).f2)) ∧ w'.cell? ⟨(ad243.add ((x16_3).toNat * 5)).block, (ad243.add ((x16_3).toNat * 5)).off + 3, none⟩ = some (.string ((rd_T32 t234 x16_3).f3)) ∧ w'.cell? ⟨(ad243.add ((x16_3).toNat * 5)).block, (ad243.add ((x16_3).toNat * 5)).off + 4, none⟩ = some (.string ((rd_T32 t234 x16_3).f4))) (ds := []) (b_ 30 0) (by kernel_rfl) rfl rfl ⟨(blk_cell BK231.out 0).trans rfl, (blk_cell BK231.out 1).trans rfl, (blk_cell BK231.out 2).trans rfl, (blk_cell BK231.out 3).trans rfl, hx243_0, hx243_1, hx243_2, hx243_3, hx243_4⟩ (fun hHeld => ?_); refine with_tabW millhandlaw16_VersionMeets.tab16 millhandlaw16_VersionMeets.bits16 (fun HT_ HW_ => ?_)
                generalize wr.drew = w75 at HO_12 BK231 HB hx243_0 hx243_1 hx243_2 hx243_3 hx243_4 hHeld ⊢
                refine pA_ 0 103 ?_ (b_ 30 1) (any_of HT_.out (by kernel_rfl)) rfl rfl (fun _ _ _ h => h) (by rfl) ?_ ?_ ?_ ?_
                rotate_left
                ·
                 intro w'
                 go_simp
                 with_reducible rfl
                rotate_left
                ·
                 simp only [Act.put, sa_, s0_, s1_, i64_w, i32_w]
                 rfl
                refine pA_ 1 104 ?_ (b_ 30 3) (any_of HT_.out (by kernel_rfl)) rfl rfl (fun _ _ _ h => h) (by rfl) ?_ ?_ ?_ ?_
                rotate_left
                ·
                 intro w'
                 go_simp
                 with_reducible rfl
                rotate_left
                ·
                 simp only [Act.put, sa_, s0_, s1_, i64_w, i32_w]
                 rfl
                refine pA_ 2 105 ?_ (b_ 30 7) (any_of HT_.out (by kernel_rfl)) rfl rfl (fun _ _ _ h => h) (by rfl) ?_ ?_ ?_ ?_
                rotate_left
                ·
                 intro w'
                 go_simp
                 with_reducible rfl
                rotate_left
                ·
                 simp only [Act.put, sa_, s0_, s1_, i64_w, i32_w]
                 rfl
                refine pA_ 3 106 ?_ (b_ 30 15) (any_of HT_.out (by kernel_rfl)) rfl rfl (fun _ _ _ h => h) (by rfl) ?_ ?_ ?_ ?_
                rotate_left
                ·
                 intro w'
                 go_simp
                 with_reducible rfl
                rotate_left
                ·
                 simp only [Act.put, sa_, s0_, s1_, i64_w, i32_w]
                 rfl
                refine pB_ 4 107 ?_ (b_ 30 31) (any_of HT_.out (by kernel_rfl)) rfl rfl (fun _ _ _ h => h) (by rfl) ?_ ?_
                rotate_left
                ·
                 simp only [Act.put, sa_, s0_, s1_, i64_w, i32_w]
                 rfl
                refine pB_ 5 108 ?_ (b_ 30 63) (any_of HT_.out (by kernel_rfl)) rfl rfl (fun _ _ _ h => h) (by rfl) ?_ ?_
                rotate_left
                ·
                 simp only [Act.put, sa_, s0_, s1_, i64_w, i32_w]
                 rfl
                refine pB_ 6 109 ?_ (b_ 30 127) (any_of HT_.out (by kernel_rfl)) rfl rfl (fun _ _ _ h => h) (by rfl) ?_ ?_
                rotate_left
                ·
                 simp only [Act.put, sa_, s0_, s1_, i64_w, i32_w]
                 rfl
                refine pB_ 7 110 ?_ (b_ 30 255) (any_of HT_.out (by kernel_rfl)) rfl rfl (fun _ _ _ h => h) (by rfl) ?_ ?_
                rotate_left
                ·
                 simp only [Act.put, sa_, s0_, s1_, i64_w, i32_w]
                 rfl
                refine pB_ 8 111 ?_ (b_ 30 511) (any_of HT_.out (by kernel_rfl)) rfl rfl (fun _ _ _ h => h) (by rfl) ?_ ?_
                rotate_left
                ·
                 simp only [Act.put, sa_, s0_, s1_, i64_w, i32_w]
                 rfl
                refine pB_ 9 112 ?_ (b_ 30 1023) (any_of HT_.out (by kernel_rfl)) rfl rfl (fun _ _ _ h => h) (by rfl) ?_ ?_
                rotate_left
                ·
                 simp only [Act.put, sa_, s0_, s1_, i64_w, i32_w]
                 rfl
                refine pB_ 10 113 ?_ (b_ 30 2047) (any_of HT_.out (by kernel_rfl)) rfl rfl (fun _ _ _ h => h) (by rfl) ?_ ?_
                rotate_left
                ·
                 simp only [Act.put, sa_, s0_, s1_, i64_w, i32_w]
                 rfl
                refine pB_ 11 114 ?_ (b_ 30 4095) (any_of HT_.out (by kernel_rfl)) rfl rfl (fun _ _ _ h => h) (by rfl) ?_ ?_
                rotate_left
                ·
                 simp only [Act.put, sa_, s0_, s1_, i64_w, i32_w]
                 rfl
                refine pB_ 12 115 ?_ (b_ 30 8191) (any_of HT_.out (by kernel_rfl)) rfl rfl (fun _ _ _ h => h) (by rfl) ?_ ?_
                rotate_left
                ·
                 simp only [Act.put, sa_, s0_, s1_, i64_w, i32_w]
                 rfl
                refine pB_ 13 116 ?_ (b_ 30 16383) (any_of HT_.out (by kernel_rfl)) rfl rfl (fun _ _ _ h => h) (by rfl) ?_ ?_
                rotate_left
                ·
                 simp only [Act.put, sa_, s0_, s1_, i64_w, i32_w]
                 rfl
                refine pB_ 14 117 ?_ (b_ 30 32767) (any_of HT_.out (by kernel_rfl)) rfl rfl (fun _ _ _ h => h) (by rfl) ?_ ?_
                rotate_left
                ·
                 simp only [Act.put, sa_, s0_, s1_, i64_w, i32_w]
                 rfl
                refine pB_ 15 118 ?_ (b_ 30 65535) (any_of HT_.out (by kernel_rfl)) rfl rfl (fun _ _ _ h => h) (by rfl) ?_ ?_
                rotate_left
                ·
                 simp only [Act.put, sa_, s0_, s1_, i64_w, i32_w]
                 rfl
                refine pB_ 16 119 ?_ (b_ 30 131071) (any_of HT_.out (by kernel_rfl)) rfl rfl (fun _ _ _ h => h) (by rfl) ?_ ?_
                rotate_left
                ·
                 simp only [Act.put, sa_, s0_, s1_, i64_w, i32_w]
                 rfl
                refine pB_ 17 120 ?_ (b_ 30 262143) (any_of HT_.out (by kernel_rfl)) rfl rfl (fun _ _ _ h => h) (by rfl) ?_ ?_
                rotate_left
                ·
                 simp only [Act.put, sa_, s0_, s1_, i64_w, i32_w]
                 rfl
                refine pB_ 18 121 ?_ (b_ 30 524287) (any_of HT_.out (by kernel_rfl)) rfl rfl (fun _ _ _ h => h) (by rfl) ?_ ?_
                rotate_left
                ·
                 simp only [Act.put, sa_, s0_, s1_, i64_w, i32_w]
                 rfl
                refine pA_ 19 122 ?_ (b_ 30 1048575) (any_of HT_.out (by kernel_rfl)) rfl rfl (fun _ _ _ h => h) (by rfl) ?_ ?_ ?_ ?_
                rotate_left
                ·
                 intro w'
                 go_simp
                 with_reducible rfl
                rotate_left
                ·
                 simp only [Act.put, sa_, s0_, s1_, i64_w, i32_w]
                 rfl
                refine pA_ 20 123 ?_ (b_ 30 2097151) (any_of HT_.out (by kernel_rfl)) rfl rfl (fun _ _ _ h => h) (by rfl) ?_ ?_ ?_ ?_
                rotate_left
                ·
                 intro w'
                 go_simp
                 with_reducible rfl
                rotate_left
                ·
                 simp only [Act.put, sa_, s0_, s1_, i64_w, i32_w]
                 rfl
                refine pA_ 22 125 ?_ (b_ 30 6291455) (any_of HT_.out (by kernel_rfl)) rfl rfl (fun _ _ _ h => h) (by rfl) ?_ ?_ ?_ ?_
                rotate_left
                ·
                 intro w'
                 go_simp
                 with_reducible rfl
                rotate_left
                ·
                 simp only [Act.put, sa_, s0_, s1_, i64_w, i32_w]
                 rfl
                refine pA_ 23 126 ?_ (b_ 30 14680063) (any_of HT_.out (by kernel_rfl)) rfl rfl (fun _ _ _ h => h) (by rfl) ?_ ?_ ?_ ?_
                rotate_left
                ·
                 intro w'
                 go_simp
                 with_reducible rfl
                rotate_left
                ·
                 simp only [Act.put, sa_, s0_, s1_, i64_w, i32_w]
                 rfl
                refine pA_ 24 127 ?_ (b_ 30 31457279) (any_of HT_.out (by kernel_rfl)) rfl rfl (fun _ _ _ h => h) (by rfl) ?_ ?_ ?_ ?_
                rotate_left
                ·
                 intro w'
                 go_simp
                 with_reducible rfl
                rotate_left
                ·
                 simp only [Act.put, sa_, s0_, s1_, i64_w, i32_w]
                 rfl
                refine pA_ 27 130 ?_ (b_ 30 165675007) (any_of HT_.out (by kernel_rfl)) rfl rfl (fun _ _ _ h => h) (by rfl) ?_ ?_ ?_ ?_
                rotate_left
                ·
                 intro w'
                 go_simp
                 with_reducible rfl
                rotate_left
                ·
                 simp only [Act.put, sa_, s0_, s1_, i64_w, i32_w]
                 rfl
                refine tA_ 21 124 ?_ (b_ 30 167772159) (take_ofW HT_.out HW_.out (by kernel_rfl)) rfl rfl (fun _ _ _ h => h) (by rfl) ?_ hHeld ?_ ?_ ?_
                rotate_left
                ·
                 rintro w' ⟨s0, s1, s2, s3, s4, s5, s6, s7, s8⟩
                 go_simp
                 with_reducible rfl
                rotate_left
                ·
                 simp only [Act.put, sa_, s0_, s1_, i64_w, i32_w]
                 rfl
                refine tA_ 25 128 ?_ (b_ 30 201326591) (take_ofW HT_.out HW_.out (by kernel_rfl)) rfl rfl (fun _ _ _ h => h) (by rfl) ?_ hHeld ?_ ?_ ?_
                rotate_left
                ·
                 rintro w' ⟨s0, s1, s2, s3, s4, s5, s6, s7, s8⟩
                 go_simp
                 with_reducible rfl
                rotate_left
                ·
                 simp only [Act.put, sa_, s0_, s1_, i64_w, i32_w]
                 rfl
                refine one_ (i := 26) (N := some 129) (b_ 30 268435455) rfl rfl (one_of HT_.out (by kernel_rfl)) (by decide) (fun K hK => ?_)
                refine goes_ Try.func12 (by kernel_rfl) rfl #[.agg #[.slice (some ad238) l0_0.length c0_0, .int .i64 a0_1, .int .i64 a0_2, .string a0_3], .agg #[.string ((rd_T32 t234 x16_3).f0), .int .i64 ((rd_T32 t234 x16_3).f1), .int .i64 ((rd_T32 t234 x16_3).f2), .string ((rd_T32 t234 x16_3).f3), .string ((rd_T32 t234 x16_3).f4)]] (by rfl) rfl rfl (by (try simp only [List.map_toArray, List.map_cons, List.map_nil]); first | done | rfl | (simp only [List.length_drop, List.length_take]; rfl)) ?_
                with_reducible refine (millhandlaw16_at.calls k3 _ _ l0_0 a0_1 a0_2 a0_3 ((rd_T32 t234 x16_3).f0) ((rd_T32 t234 x16_3).f1) ((rd_T32 t234 x16_3).f2) ((rd_T32 t234 x16_3).f3) ((rd_T32 t234 x16_3).f4) t244 _ ?side1 ?side2 A72.out).mono ?_
                (case side1 => repeat (first | exact (Kd.C_below HR0_0.out HB.out) | (with_reducible refine Kd.C_alloc ?_ _) | (with_reducible refine Kd.C_drewN ?_ _) | (with_reducible refine Kd.C_drew ?_)))
                (case side2 => exact HC0_0.out)
                rintro e w76 ⟨rfl, hb⟩
                have HS4_ := (hb.cell (World.block_lt_of_cell? _ _ (hHeld.2.2.2.2.1))).trans (hHeld.2.2.2.2.1)
                have HS5_ := (hb.cell (World.block_lt_of_cell? _ _ (hHeld.2.2.2.2.2.1))).trans (hHeld.2.2.2.2.2.1)
                have HS6_ := (hb.cell (World.block_lt_of_cell? _ _ (hHeld.2.2.2.2.2.2.1))).trans (hHeld.2.2.2.2.2.2.1)
                have HS7_ := (hb.cell (World.block_lt_of_cell? _ _ (hHeld.2.2.2.2.2.2.2.1))).trans (hHeld.2.2.2.2.2.2.2.1)
                have HS8_ := (hb.cell (World.block_lt_of_cell? _ _ (hHeld.2.2.2.2.2.2.2.2))).trans (hHeld.2.2.2.2.2.2.2.2)
                refine ⟨_, rfl, ?_⟩
                have n0_ := Aside0.mk (Kd.R_below (by (with_reducible repeat (first | apply Kd.R_alloc | apply Kd.R_drewN | apply Kd.R_drew)); exact HO_12.out) hb)
                have n1_ := Aside0.mk (blk_below (g := gb231) (o := .cells #[.slice (some ad238) l0_0.length c0_0, .int .i64 a0_1, .int .i64 a0_2, .string a0_3] 24 (0, 0)) (by (with_reducible repeat (first | refine blk_drewN ?_ _ | refine blk_drew ?_ | refine blk_alloc ?_ _)); exact BK231.out) hb)
                have n2_ := Aside0.mk (below_step (by repeat (first | (with_reducible first | exact HB.out | apply below_alloc | apply pw_below_drewN | apply below_drew1 | refine below_set ?_ GE231.out) | exact HB.out)) hb)
                clear HO_12
                clear BK231
                clear HB
                have HO_12 := n0_
                have BK231 := n1_
                have HB := n2_
                clear n0_ n1_ n2_
                (try clear hb)
                (try clear hb2)
                (try clear hk)
                (try clear hi)
                refine hK.out _ _ ⟨(blk_cell BK231.out 0).trans rfl, (blk_cell BK231.out 1).trans rfl, (blk_cell BK231.out 2).trans rfl, (blk_cell BK231.out 3).trans rfl, HS4_, HS5_, HS6_, HS7_, HS8_⟩ (fun hHeld => ?_)
                clear hK K
                refine norm_ (a' := ?_) ?_ ?_
                rotate_left
                ·
                 show Act.put _ (some 129) _ = _
                 simp only [Act.put, sa_, s0_, s1_, i64_w, i32_w]
                 rfl
                refine pA_ 28 131 ?_ (b_ 30 536870911) (any_of HT_.out (by kernel_rfl)) rfl rfl (fun _ _ _ h => h) (by rfl) ?_ ?_ ?_ ?_
                rotate_left
                ·
                 intro w'
                 go_simp
                 with_reducible rfl
                rotate_left
                ·
                 simp only [Act.put, sa_, s0_, s1_, i64_w, i32_w]
                 rfl
                refine pA_ 29 132 ?_ (b_ 30 1073741823) (any_of HT_.out (by kernel_rfl)) rfl rfl (fun _ _ _ h => h) (by rfl) ?_ ?_ ?_ ?_
                rotate_left
                ·
                 intro w'
                 go_simp
                 with_reducible rfl
                rotate_left
                ·
                 simp only [Act.put, sa_, s0_, s1_, i64_w, i32_w]
                 rfl
                refine done_ (done_of HT_.out (by kernel_rfl)) ?_
                try go_wp2
                go_roundg k3
                case measure => have := HJ6.out; have := HK2.out; have := HK3.out; omega
                case rel => exact ⟨(wrap64 (x16_3 + 1)), (by first | rfl | (simp; done) | (simp [*]; done)), H', ⟨by have := HJ6.out; have := HK2.out; have := HK3.out; omega⟩, ⟨by (with_reducible repeat (first | apply Kd.R_alloc | apply Kd.R_drewN | apply Kd.R_drew)); exact HO_12.out⟩, ⟨by (with_reducible repeat (first | refine blk_drewN ?_ _ | refine blk_drew ?_ | refine blk_alloc ?_ _)); exact BK231.out⟩, ⟨by repeat (first | (with_reducible first | exact HB.out | apply below_alloc | apply pw_below_drewN | apply below_drew1 | refine below_set ?_ GE231.out) | exact HB.out)⟩⟩
               ·
                rw [if_neg c73] at H
                have c73b0 : (t244 == a1) = false := beq_eq_false_iff_ne.mpr c73
                have c73b1 : (t244 != a1) = true := bne_iff_ne.mpr c73
                obtain rfl := Option.some.inj H
                obtain ⟨Ao77, co77, eo77⟩ := Kd.R_slice HO_12.out
                subst eo77
                try go_wp2
                have n0_ := Aside0.mk (Kd.R_drew HO_12.out)
                have n1_ := Aside0.mk (blk_drew BK231.out)
                have n2_ := Aside0.mk (below_drew1 HB.out)
                clear HO_12
                clear BK231
                clear HB
                have HO_12 := n0_
                have BK231 := n1_
                have HB := n2_
                clear n0_ n1_ n2_
                have p243 : 0 ≤ (x16_3 : Int) := of_decide_eq_true (by first | (with_reducible assumption) | assumption)
                have q243 : x16_3 < (t234.length : Int) := of_decide_eq_true (by first | (with_reducible assumption) | assumption)
                obtain ⟨ad243, e243, hx243_0, hx243_1, hx243_2, hx243_3, hx243_4⟩ := at_T32 (Kd.R_reads' HO_12.out).2.2 x16_3 p243 q243
                cases e243
                replace p243 := eq_true p243
                replace q243 := eq_true q243
                refine start_ (n := 30) (S := fun w' => w'.cell? ⟨gb231, 0, none⟩ = some (.slice (some ad238) l0_0.length c0_0) ∧ w'.cell? ⟨gb231, 1, none⟩ = some (.int .i64 a0_1) ∧ w'.cell? ⟨gb231, 2, none⟩ = some (.int .i64 a0_2) ∧ w'.cell? ⟨gb231, 3, none⟩ = some (.string a0_3) ∧ w'.cell? (ad243.add ((x16_3).toNat * 5)) = some (.string ((rd_T32 t234 x16_3).f0)) ∧ w'.cell? ⟨(ad243.add ((x16_3).toNat * 5)).block, (ad243.add ((x16_3).toNat * 5)).off + 1, none⟩ = some (.int .i64 ((rd_T32 t234 x16_3).f1)) ∧ w'.cell? ⟨(ad243.add ((x16_3).toNat * 5)).block, (ad243.add ((x16_3).toNat * 5)).off + 2, none⟩ = some (.int .i64 ((rd_T32 t234 x16_3).f2)) ∧ w'.cell? ⟨(ad243.add ((x16_3).toNat * 5)).block, (ad243.add ((x16_3).toNat * 5)).off + 3, none⟩ = some (.string ((rd_T32 t234 x16_3).f3)) ∧ w'.cell? ⟨(ad243.add ((x16_3).toNat * 5)).block, (ad243.add ((x16_3).toNat * 5)).off + 4, none⟩ = some (.string ((rd_T32 t234 x16_3).f4))) (ds := []) (b_ 30 0) (by kernel_rfl) rfl rfl ⟨(blk_cell BK231.out 0).trans rfl, (blk_cell BK231.out 1).trans rfl, (blk_cell BK231.out 2).trans rfl, (blk_cell BK231.out 3).trans rfl, hx243_0, hx243_1, hx243_2, hx243_3, hx243_4⟩ (fun hHeld => ?_); refine with_tabW millhandlaw16_VersionMeets.tab16 millhandlaw16_VersionMeets.bits16 (fun HT_ HW_ => ?_)
                generalize wr.drew = w78 at HO_12 BK231 HB hx243_0 hx243_1 hx243_2 hx243_3 hx243_4 hHeld ⊢
                refine pA_ 0 103 ?_ (b_ 30 1) (any_of HT_.out (by kernel_rfl)) rfl rfl (fun _ _ _ h => h) (by rfl) ?_ ?_ ?_ ?_
                rotate_left
                ·
                 intro w'
                 go_simp
                 with_reducible rfl
                rotate_left
                ·
                 simp only [Act.put, sa_, s0_, s1_, i64_w, i32_w]
                 rfl
                refine pA_ 1 104 ?_ (b_ 30 3) (any_of HT_.out (by kernel_rfl)) rfl rfl (fun _ _ _ h => h) (by rfl) ?_ ?_ ?_ ?_
                rotate_left
                ·
                 intro w'
                 go_simp
                 with_reducible rfl
                rotate_left
                ·
                 simp only [Act.put, sa_, s0_, s1_, i64_w, i32_w]
                 rfl
                refine pA_ 2 105 ?_ (b_ 30 7) (any_of HT_.out (by kernel_rfl)) rfl rfl (fun _ _ _ h => h) (by rfl) ?_ ?_ ?_ ?_
                rotate_left
                ·
                 intro w'
                 go_simp
                 with_reducible rfl
                rotate_left
                ·
                 simp only [Act.put, sa_, s0_, s1_, i64_w, i32_w]
                 rfl
                refine pA_ 3 106 ?_ (b_ 30 15) (any_of HT_.out (by kernel_rfl)) rfl rfl (fun _ _ _ h => h) (by rfl) ?_ ?_ ?_ ?_
                rotate_left
                ·
                 intro w'
                 go_simp
                 with_reducible rfl
                rotate_left
                ·
                 simp only [Act.put, sa_, s0_, s1_, i64_w, i32_w]
                 rfl
                refine pB_ 4 107 ?_ (b_ 30 31) (any_of HT_.out (by kernel_rfl)) rfl rfl (fun _ _ _ h => h) (by rfl) ?_ ?_
                rotate_left
                ·
                 simp only [Act.put, sa_, s0_, s1_, i64_w, i32_w]
                 rfl
                refine pB_ 5 108 ?_ (b_ 30 63) (any_of HT_.out (by kernel_rfl)) rfl rfl (fun _ _ _ h => h) (by rfl) ?_ ?_
                rotate_left
                ·
                 simp only [Act.put, sa_, s0_, s1_, i64_w, i32_w]
                 rfl
                refine pB_ 6 109 ?_ (b_ 30 127) (any_of HT_.out (by kernel_rfl)) rfl rfl (fun _ _ _ h => h) (by rfl) ?_ ?_
                rotate_left
                ·
                 simp only [Act.put, sa_, s0_, s1_, i64_w, i32_w]
                 rfl
                refine pB_ 7 110 ?_ (b_ 30 255) (any_of HT_.out (by kernel_rfl)) rfl rfl (fun _ _ _ h => h) (by rfl) ?_ ?_
                rotate_left
                ·
                 simp only [Act.put, sa_, s0_, s1_, i64_w, i32_w]
                 rfl
                refine pB_ 8 111 ?_ (b_ 30 511) (any_of HT_.out (by kernel_rfl)) rfl rfl (fun _ _ _ h => h) (by rfl) ?_ ?_
                rotate_left
                ·
                 simp only [Act.put, sa_, s0_, s1_, i64_w, i32_w]
                 rfl
                refine pB_ 9 112 ?_ (b_ 30 1023) (any_of HT_.out (by kernel_rfl)) rfl rfl (fun _ _ _ h => h) (by rfl) ?_ ?_
                rotate_left
                ·
                 simp only [Act.put, sa_, s0_, s1_, i64_w, i32_w]
                 rfl
                refine pB_ 10 113 ?_ (b_ 30 2047) (any_of HT_.out (by kernel_rfl)) rfl rfl (fun _ _ _ h => h) (by rfl) ?_ ?_
                rotate_left
                ·
                 simp only [Act.put, sa_, s0_, s1_, i64_w, i32_w]
                 rfl
                refine pB_ 11 114 ?_ (b_ 30 4095) (any_of HT_.out (by kernel_rfl)) rfl rfl (fun _ _ _ h => h) (by rfl) ?_ ?_
                rotate_left
                ·
                 simp only [Act.put, sa_, s0_, s1_, i64_w, i32_w]
                 rfl
                refine pB_ 12 115 ?_ (b_ 30 8191) (any_of HT_.out (by kernel_rfl)) rfl rfl (fun _ _ _ h => h) (by rfl) ?_ ?_
                rotate_left
                ·
                 simp only [Act.put, sa_, s0_, s1_, i64_w, i32_w]
                 rfl
                refine pB_ 13 116 ?_ (b_ 30 16383) (any_of HT_.out (by kernel_rfl)) rfl rfl (fun _ _ _ h => h) (by rfl) ?_ ?_
                rotate_left
                ·
                 simp only [Act.put, sa_, s0_, s1_, i64_w, i32_w]
                 rfl
                refine pB_ 14 117 ?_ (b_ 30 32767) (any_of HT_.out (by kernel_rfl)) rfl rfl (fun _ _ _ h => h) (by rfl) ?_ ?_
                rotate_left
                ·
                 simp only [Act.put, sa_, s0_, s1_, i64_w, i32_w]
                 rfl
                refine pB_ 15 118 ?_ (b_ 30 65535) (any_of HT_.out (by kernel_rfl)) rfl rfl (fun _ _ _ h => h) (by rfl) ?_ ?_
                rotate_left
                ·
                 simp only [Act.put, sa_, s0_, s1_, i64_w, i32_w]
                 rfl
                refine pB_ 16 119 ?_ (b_ 30 131071) (any_of HT_.out (by kernel_rfl)) rfl rfl (fun _ _ _ h => h) (by rfl) ?_ ?_
                rotate_left
                ·
                 simp only [Act.put, sa_, s0_, s1_, i64_w, i32_w]
                 rfl
                refine pB_ 17 120 ?_ (b_ 30 262143) (any_of HT_.out (by kernel_rfl)) rfl rfl (fun _ _ _ h => h) (by rfl) ?_ ?_
                rotate_left
                ·
                 simp only [Act.put, sa_, s0_, s1_, i64_w, i32_w]
                 rfl
                refine pB_ 18 121 ?_ (b_ 30 524287) (any_of HT_.out (by kernel_rfl)) rfl rfl (fun _ _ _ h => h) (by rfl) ?_ ?_
                rotate_left
                ·
                 simp only [Act.put, sa_, s0_, s1_, i64_w, i32_w]
                 rfl
                refine pA_ 19 122 ?_ (b_ 30 1048575) (any_of HT_.out (by kernel_rfl)) rfl rfl (fun _ _ _ h => h) (by rfl) ?_ ?_ ?_ ?_
                rotate_left
                ·
                 intro w'
                 go_simp
                 with_reducible rfl
                rotate_left
                ·
                 simp only [Act.put, sa_, s0_, s1_, i64_w, i32_w]
                 rfl
                refine pA_ 20 123 ?_ (b_ 30 2097151) (any_of HT_.out (by kernel_rfl)) rfl rfl (fun _ _ _ h => h) (by rfl) ?_ ?_ ?_ ?_
                rotate_left
                ·
                 intro w'
                 go_simp
                 with_reducible rfl
                rotate_left
                ·
                 simp only [Act.put, sa_, s0_, s1_, i64_w, i32_w]
                 rfl
                refine pA_ 22 125 ?_ (b_ 30 6291455) (any_of HT_.out (by kernel_rfl)) rfl rfl (fun _ _ _ h => h) (by rfl) ?_ ?_ ?_ ?_
                rotate_left
                ·
                 intro w'
                 go_simp
                 with_reducible rfl
                rotate_left
                ·
                 simp only [Act.put, sa_, s0_, s1_, i64_w, i32_w]
                 rfl
                refine pA_ 23 126 ?_ (b_ 30 14680063) (any_of HT_.out (by kernel_rfl)) rfl rfl (fun _ _ _ h => h) (by rfl) ?_ ?_ ?_ ?_
                rotate_left
                ·
                 intro w'
                 go_simp
                 with_reducible rfl
                rotate_left
                ·
                 simp only [Act.put, sa_, s0_, s1_, i64_w, i32_w]
                 rfl
                refine pA_ 24 127 ?_ (b_ 30 31457279) (any_of HT_.out (by kernel_rfl)) rfl rfl (fun _ _ _ h => h) (by rfl) ?_ ?_ ?_ ?_
                rotate_left
                ·
                 intro w'
                 go_simp
                 with_reducible rfl
                rotate_left
                ·
                 simp only [Act.put, sa_, s0_, s1_, i64_w, i32_w]
                 rfl
                refine pA_ 27 130 ?_ (b_ 30 165675007) (any_of HT_.out (by kernel_rfl)) rfl rfl (fun _ _ _ h => h) (by rfl) ?_ ?_ ?_ ?_
                rotate_left
                ·
                 intro w'
                 go_simp
                 with_reducible rfl
                rotate_left
                ·
                 simp only [Act.put, sa_, s0_, s1_, i64_w, i32_w]
                 rfl
                refine tA_ 21 124 ?_ (b_ 30 167772159) (take_ofW HT_.out HW_.out (by kernel_rfl)) rfl rfl (fun _ _ _ h => h) (by rfl) ?_ hHeld ?_ ?_ ?_
                rotate_left
                ·
                 rintro w' ⟨s0, s1, s2, s3, s4, s5, s6, s7, s8⟩
                 go_simp
                 with_reducible rfl
                rotate_left
                ·
                 simp only [Act.put, sa_, s0_, s1_, i64_w, i32_w]
                 rfl
                refine tA_ 25 128 ?_ (b_ 30 201326591) (take_ofW HT_.out HW_.out (by kernel_rfl)) rfl rfl (fun _ _ _ h => h) (by rfl) ?_ hHeld ?_ ?_ ?_
                rotate_left
                ·
                 rintro w' ⟨s0, s1, s2, s3, s4, s5, s6, s7, s8⟩
                 go_simp
                 with_reducible rfl
                rotate_left
                ·
                 simp only [Act.put, sa_, s0_, s1_, i64_w, i32_w]
                 rfl
                refine one_ (i := 26) (N := some 129) (b_ 30 268435455) rfl rfl (one_of HT_.out (by kernel_rfl)) (by decide) (fun K hK => ?_)
                refine goes_ Try.func12 (by kernel_rfl) rfl #[.agg #[.slice (some ad238) l0_0.length c0_0, .int .i64 a0_1, .int .i64 a0_2, .string a0_3], .agg #[.string ((rd_T32 t234 x16_3).f0), .int .i64 ((rd_T32 t234 x16_3).f1), .int .i64 ((rd_T32 t234 x16_3).f2), .string ((rd_T32 t234 x16_3).f3), .string ((rd_T32 t234 x16_3).f4)]] (by rfl) rfl rfl (by (try simp only [List.map_toArray, List.map_cons, List.map_nil]); first | done | rfl | (simp only [List.length_drop, List.length_take]; rfl)) ?_
                with_reducible refine (millhandlaw16_at.calls k3 _ _ l0_0 a0_1 a0_2 a0_3 ((rd_T32 t234 x16_3).f0) ((rd_T32 t234 x16_3).f1) ((rd_T32 t234 x16_3).f2) ((rd_T32 t234 x16_3).f3) ((rd_T32 t234 x16_3).f4) t244 _ ?side1 ?side2 A72.out).mono ?_
                (case side1 => repeat (first | exact (Kd.C_below HR0_0.out HB.out) | (with_reducible refine Kd.C_alloc ?_ _) | (with_reducible refine Kd.C_drewN ?_ _) | (with_reducible refine Kd.C_drew ?_)))
                (case side2 => exact HC0_0.out)
                rintro e w79 ⟨rfl, hb⟩
                have HS4_ := (hb.cell (World.block_lt_of_cell? _ _ (hHeld.2.2.2.2.1))).trans (hHeld.2.2.2.2.1)
                have HS5_ := (hb.cell (World.block_lt_of_cell? _ _ (hHeld.2.2.2.2.2.1))).trans (hHeld.2.2.2.2.2.1)
                have HS6_ := (hb.cell (World.block_lt_of_cell? _ _ (hHeld.2.2.2.2.2.2.1))).trans (hHeld.2.2.2.2.2.2.1)
                have HS7_ := (hb.cell (World.block_lt_of_cell? _ _ (hHeld.2.2.2.2.2.2.2.1))).trans (hHeld.2.2.2.2.2.2.2.1)
                have HS8_ := (hb.cell (World.block_lt_of_cell? _ _ (hHeld.2.2.2.2.2.2.2.2))).trans (hHeld.2.2.2.2.2.2.2.2)
                refine ⟨_, rfl, ?_⟩
                have n0_ := Aside0.mk (Kd.R_below (by (with_reducible repeat (first | apply Kd.R_alloc | apply Kd.R_drewN | apply Kd.R_drew)); exact HO_12.out) hb)
                have n1_ := Aside0.mk (blk_below (g := gb231) (o := .cells #[.slice (some ad238) l0_0.length c0_0, .int .i64 a0_1, .int .i64 a0_2, .string a0_3] 24 (0, 0)) (by (with_reducible repeat (first | refine blk_drewN ?_ _ | refine blk_drew ?_ | refine blk_alloc ?_ _)); exact BK231.out) hb)
                have n2_ := Aside0.mk (below_step (by repeat (first | (with_reducible first | exact HB.out | apply below_alloc | apply pw_below_drewN | apply below_drew1 | refine below_set ?_ GE231.out) | exact HB.out)) hb)
                clear HO_12
                clear BK231
                clear HB
                have HO_12 := n0_
                have BK231 := n1_
                have HB := n2_
                clear n0_ n1_ n2_
                (try clear hb)
                (try clear hb2)
                (try clear hk)
                (try clear hi)
                refine hK.out _ _ ⟨(blk_cell BK231.out 0).trans rfl, (blk_cell BK231.out 1).trans rfl, (blk_cell BK231.out 2).trans rfl, (blk_cell BK231.out 3).trans rfl, HS4_, HS5_, HS6_, HS7_, HS8_⟩ (fun hHeld => ?_)
                clear hK K
                refine norm_ (a' := ?_) ?_ ?_
                rotate_left
                ·
                 show Act.put _ (some 129) _ = _
                 simp only [Act.put, sa_, s0_, s1_, i64_w, i32_w]
                 rfl
                refine pA_ 28 131 ?_ (b_ 30 536870911) (any_of HT_.out (by kernel_rfl)) rfl rfl (fun _ _ _ h => h) (by rfl) ?_ ?_ ?_ ?_
                rotate_left
                ·
                 intro w'
                 go_simp
                 with_reducible rfl
                rotate_left
                ·
                 simp only [Act.put, sa_, s0_, s1_, i64_w, i32_w]
                 rfl
                refine pA_ 29 132 ?_ (b_ 30 1073741823) (any_of HT_.out (by kernel_rfl)) rfl rfl (fun _ _ _ h => h) (by rfl) ?_ ?_ ?_ ?_
                rotate_left
                ·
                 intro w'
                 go_simp
                 with_reducible rfl
                rotate_left
                ·
                 simp only [Act.put, sa_, s0_, s1_, i64_w, i32_w]
                 rfl
                refine done_ (done_of HT_.out (by kernel_rfl)) ?_
                try go_wp2
                go_ret
                exact ⟨by first | rfl | (simp [errW_none, errW_some] <;> rfl) | (simp [*, errW_none, errW_some] <;> rfl) | exact ret_ie _ | (simp [*, errW_none, errW_some, bne]; done), by repeat (first | (with_reducible first | exact HB.out | apply below_alloc | apply pw_below_drewN | apply below_drew1 | refine below_set ?_ GE231.out) | exact HB.out)⟩
              ·
               rw [if_neg c71] at H
               exact absurd H (by simp)
             ·
              rw [if_neg c70] at H
              have c70b0 : (Op.bytesLess a3.toList a2.toList) = false := by simpa using c70
              clear c70
              by_cases c80 : 0 ≤ x16_3
              ·
               rw [if_pos c80] at H
               have c80b0 : decide (0 ≤ x16_3) = true := decide_eq_true c80
               clear c80
               by_cases c81 : (Op.bytesLess ((mnS ((rd_T32 t234 x16_3).f4) a3).toList) ((mxS ((rd_T32 t234 x16_3).f3) a2).toList)) = true
               ·
                rw [if_pos c81] at H
                have c81b0 : (Op.bytesLess ((mnS ((rd_T32 t234 x16_3).f4) a3).toList) ((mxS ((rd_T32 t234 x16_3).f3) a2).toList)) = true := c81
                clear c81
                obtain rfl := Option.some.inj H
                obtain ⟨Ao82, co82, eo82⟩ := Kd.R_slice HO_12.out
                subst eo82
                try go_wp2
                have n0_ := Aside0.mk (Kd.R_drew HO_12.out)
                have n1_ := Aside0.mk (blk_drew BK231.out)
                have n2_ := Aside0.mk (below_drew1 HB.out)
                clear HO_12
                clear BK231
                clear HB
                have HO_12 := n0_
                have BK231 := n1_
                have HB := n2_
                clear n0_ n1_ n2_
                have p245 : 0 ≤ (x16_3 : Int) := of_decide_eq_true (by first | (with_reducible assumption) | assumption)
                have q245 : x16_3 < (t234.length : Int) := of_decide_eq_true (by first | (with_reducible assumption) | assumption)
                obtain ⟨ad245, e245, hx245_0, hx245_1, hx245_2, hx245_3, hx245_4⟩ := at_T32 (Kd.R_reads' HO_12.out).2.2 x16_3 p245 q245
                cases e245
                replace p245 := eq_true p245
                replace q245 := eq_true q245
                have p246 : 0 ≤ (x16_3 : Int) := of_decide_eq_true (by first | (with_reducible assumption) | assumption)
                have q246 : x16_3 < (t234.length : Int) := of_decide_eq_true (by first | (with_reducible assumption) | assumption)
                obtain ⟨ad246, e246, hx246_0, hx246_1, hx246_2, hx246_3, hx246_4⟩ := at_T32 (Kd.R_reads' HO_12.out).2.2 x16_3 p246 q246
                obtain rfl : ad245 = ad246 := (by injection e246)
                replace p246 := eq_true p246
                replace q246 := eq_true q246
                refine start_ (n := 30) (S := fun w' => w'.cell? (ad245.add ((x16_3).toNat * 5)) = some (.string ((rd_T32 t234 x16_3).f0)) ∧ w'.cell? ⟨(ad245.add ((x16_3).toNat * 5)).block, (ad245.add ((x16_3).toNat * 5)).off + 1, none⟩ = some (.int .i64 ((rd_T32 t234 x16_3).f1)) ∧ w'.cell? ⟨(ad245.add ((x16_3).toNat * 5)).block, (ad245.add ((x16_3).toNat * 5)).off + 2, none⟩ = some (.int .i64 ((rd_T32 t234 x16_3).f2)) ∧ w'.cell? ⟨(ad245.add ((x16_3).toNat * 5)).block, (ad245.add ((x16_3).toNat * 5)).off + 3, none⟩ = some (.string ((rd_T32 t234 x16_3).f3)) ∧ w'.cell? ⟨(ad245.add ((x16_3).toNat * 5)).block, (ad245.add ((x16_3).toNat * 5)).off + 4, none⟩ = some (.string ((rd_T32 t234 x16_3).f4)) ∧ w'.cell? (ad245.add ((x16_3).toNat * 5)) = some (.string ((rd_T32 t234 x16_3).f0)) ∧ w'.cell? ⟨(ad245.add ((x16_3).toNat * 5)).block, (ad245.add ((x16_3).toNat * 5)).off + 1, none⟩ = some (.int .i64 ((rd_T32 t234 x16_3).f1)) ∧ w'.cell? ⟨(ad245.add ((x16_3).toNat * 5)).block, (ad245.add ((x16_3).toNat * 5)).off + 2, none⟩ = some (.int .i64 ((rd_T32 t234 x16_3).f2)) ∧ w'.cell? ⟨(ad245.add ((x16_3).toNat * 5)).block, (ad245.add ((x16_3).toNat * 5)).off + 3, none⟩ = some (.string ((rd_T32 t234 x16_3).f3)) ∧ w'.cell? ⟨(ad245.add ((x16_3).toNat * 5)).block, (ad245.add ((x16_3).toNat * 5)).off + 4, none⟩ = some (.string ((rd_T32 t234 x16_3).f4))) (ds := []) (b_ 30 0) (by kernel_rfl) rfl rfl ⟨hx245_0, hx245_1, hx245_2, hx245_3, hx245_4, hx246_0, hx246_1, hx246_2, hx246_3, hx246_4⟩ (fun hHeld => ?_); refine with_tabW millhandlaw16_VersionMeets.tab16 millhandlaw16_VersionMeets.bits16 (fun HT_ HW_ => ?_)
                generalize wr.drew = w83 at HO_12 BK231 HB hx245_0 hx245_1 hx245_2 hx245_3 hx245_4 hx246_0 hx246_1 hx246_2 hx246_3 hx246_4 hHeld ⊢
                refine pA_ 0 103 ?_ (b_ 30 1) (any_of HT_.out (by kernel_rfl)) rfl rfl (fun _ _ _ h => h) (by rfl) ?_ ?_ ?_ ?_
                rotate_left
                ·
                 intro w'
                 go_simp
                 with_reducible rfl
                rotate_left
                ·
                 simp only [Act.put, sa_, s0_, s1_, i64_w, i32_w]
                 rfl
                refine pA_ 1 104 ?_ (b_ 30 3) (any_of HT_.out (by kernel_rfl)) rfl rfl (fun _ _ _ h => h) (by rfl) ?_ ?_ ?_ ?_
                rotate_left
                ·
                 intro w'
                 go_simp
                 with_reducible rfl
                rotate_left
                ·
                 simp only [Act.put, sa_, s0_, s1_, i64_w, i32_w]
                 rfl
                refine pA_ 2 105 ?_ (b_ 30 7) (any_of HT_.out (by kernel_rfl)) rfl rfl (fun _ _ _ h => h) (by rfl) ?_ ?_ ?_ ?_
                rotate_left
                ·
                 intro w'
                 go_simp
                 with_reducible rfl
                rotate_left
                ·
                 simp only [Act.put, sa_, s0_, s1_, i64_w, i32_w]
                 rfl
                refine pA_ 3 106 ?_ (b_ 30 15) (any_of HT_.out (by kernel_rfl)) rfl rfl (fun _ _ _ h => h) (by rfl) ?_ ?_ ?_ ?_
                rotate_left
                ·
                 intro w'
                 go_simp
                 with_reducible rfl
                rotate_left
                ·
                 simp only [Act.put, sa_, s0_, s1_, i64_w, i32_w]
                 rfl
                refine pA_ 4 107 ?_ (b_ 30 31) (any_of HT_.out (by kernel_rfl)) rfl rfl (fun _ _ _ h => h) (by rfl) ?_ ?_ ?_ ?_
                rotate_left
                ·
                 intro w'
                 go_simp
                 with_reducible rfl
                rotate_left
                ·
                 simp only [Act.put, sa_, s0_, s1_, i64_w, i32_w]
                 rfl
                refine pA_ 5 108 ?_ (b_ 30 63) (any_of HT_.out (by kernel_rfl)) rfl rfl (fun _ _ _ h => h) (by rfl) ?_ ?_ ?_ ?_
                rotate_left
                ·
                 intro w'
                 go_simp
                 with_reducible rfl
                rotate_left
                ·
                 simp only [Act.put, sa_, s0_, s1_, i64_w, i32_w]
                 rfl
                refine pA_ 6 109 ?_ (b_ 30 127) (any_of HT_.out (by kernel_rfl)) rfl rfl (fun _ _ _ h => h) (by rfl) ?_ ?_ ?_ ?_
                rotate_left
                ·
                 intro w'
                 go_simp
                 with_reducible rfl
                rotate_left
                ·
                 simp only [Act.put, sa_, s0_, s1_, i64_w, i32_w]
                 rfl
                refine pA_ 7 110 ?_ (b_ 30 255) (any_of HT_.out (by kernel_rfl)) rfl rfl (fun _ _ _ h => h) (by rfl) ?_ ?_ ?_ ?_
                rotate_left
                ·
                 intro w'
                 go_simp
                 with_reducible rfl
                rotate_left
                ·
                 simp only [Act.put, sa_, s0_, s1_, i64_w, i32_w]
                 rfl
                refine pA_ 9 112 ?_ (b_ 30 767) (any_of HT_.out (by kernel_rfl)) rfl rfl (fun _ _ _ h => h) (by rfl) ?_ ?_ ?_ ?_
                rotate_left
                ·
                 intro w'
                 go_simp
                 with_reducible rfl
                rotate_left
                ·
                 simp only [Act.put, sa_, s0_, s1_, i64_w, i32_w]
                 rfl
                refine pA_ 11 114 ?_ (b_ 30 2815) (any_of HT_.out (by kernel_rfl)) rfl rfl (fun _ _ _ h => h) (by rfl) ?_ ?_ ?_ ?_
                rotate_left
                ·
                 intro w'
                 go_simp
                 with_reducible rfl
                rotate_left
                ·
                 simp only [Act.put, sa_, s0_, s1_, i64_w, i32_w]
                 rfl
                refine pA_ 12 115 ?_ (b_ 30 6911) (any_of HT_.out (by kernel_rfl)) rfl rfl (fun _ _ _ h => h) (by rfl) ?_ ?_ ?_ ?_
                rotate_left
                ·
                 intro w'
                 go_simp
                 with_reducible rfl
                rotate_left
                ·
                 simp only [Act.put, sa_, s0_, s1_, i64_w, i32_w]
                 rfl
                refine pA_ 13 116 ?_ (b_ 30 15103) (any_of HT_.out (by kernel_rfl)) rfl rfl (fun _ _ _ h => h) (by rfl) ?_ ?_ ?_ ?_
                rotate_left
                ·
                 intro w'
                 go_simp
                 with_reducible rfl
                rotate_left
                ·
                 simp only [Act.put, sa_, s0_, s1_, i64_w, i32_w]
                 rfl
                refine pA_ 14 117 ?_ (b_ 30 31487) (any_of HT_.out (by kernel_rfl)) rfl rfl (fun _ _ _ h => h) (by rfl) ?_ ?_ ?_ ?_
                rotate_left
                ·
                 intro w'
                 go_simp
                 with_reducible rfl
                rotate_left
                ·
                 simp only [Act.put, sa_, s0_, s1_, i64_w, i32_w]
                 rfl
                refine pA_ 16 119 ?_ (b_ 30 97023) (any_of HT_.out (by kernel_rfl)) rfl rfl (fun _ _ _ h => h) (by rfl) ?_ ?_ ?_ ?_
                rotate_left
                ·
                 intro w'
                 go_simp
                 with_reducible rfl
                rotate_left
                ·
                 simp only [Act.put, sa_, s0_, s1_, i64_w, i32_w]
                 rfl
                refine tA_ 8 111 ?_ (b_ 30 97279) (take_ofW HT_.out HW_.out (by kernel_rfl)) rfl rfl (fun _ _ _ h => h) (by rfl) ?_ hHeld ?_ ?_ ?_
                rotate_left
                ·
                 rintro w' ⟨s0, s1, s2, s3, s4, s5, s6, s7, s8, s9⟩
                 go_simp
                 with_reducible rfl
                rotate_left
                ·
                 simp only [Act.put, sa_, s0_, s1_, i64_w, i32_w]
                 rfl
                refine pA_ 10 113 ?_ (b_ 30 98303) (any_of HT_.out (by kernel_rfl)) rfl rfl (fun _ _ _ h => h) (by rfl) ?_ ?_ ?_ ?_
                rotate_left
                ·
                 intro w'
                 go_simp
                 with_reducible rfl
                rotate_left
                ·
                 simp only [Act.put, sa_, s0_, s1_, i64_w, i32_w]
                 rfl
                refine tA_ 15 118 ?_ (b_ 30 131071) (take_ofW HT_.out HW_.out (by kernel_rfl)) rfl rfl (fun _ _ _ h => h) (by rfl) ?_ hHeld ?_ ?_ ?_
                rotate_left
                ·
                 rintro w' ⟨s0, s1, s2, s3, s4, s5, s6, s7, s8, s9⟩
                 go_simp
                 with_reducible rfl
                rotate_left
                ·
                 simp only [Act.put, sa_, s0_, s1_, i64_w, i32_w]
                 rfl
                refine pA_ 17 120 ?_ (b_ 30 262143) (any_of HT_.out (by kernel_rfl)) rfl rfl (fun _ _ _ h => h) (by rfl) ?_ ?_ ?_ ?_
                rotate_left
                ·
                 intro w'
                 go_simp
                 with_reducible rfl
                rotate_left
                ·
                 simp only [Act.put, sa_, s0_, s1_, i64_w, i32_w]
                 rfl
                refine pA_ 18 121 ?_ (b_ 30 524287) (any_of HT_.out (by kernel_rfl)) rfl rfl (fun _ _ _ h => h) (by rfl) ?_ ?_ ?_ ?_
                rotate_left
                ·
                 intro w'
                 go_simp
                 with_reducible rfl
                rotate_left
                ·
                 simp only [Act.put, sa_, s0_, s1_, i64_w, i32_w]
                 rfl
                refine pA_ 19 122 ?_ (b_ 30 1048575) (any_of HT_.out (by kernel_rfl)) rfl rfl (fun _ _ _ h => h) (by rfl) ?_ ?_ ?_ ?_
                rotate_left
                ·
                 intro w'
                 go_simp
                 with_reducible rfl
                rotate_left
                ·
                 simp only [Act.put, sa_, s0_, s1_, i64_w, i32_w]
                 rfl
                refine pA_ 20 123 ?_ (b_ 30 2097151) (any_of HT_.out (by kernel_rfl)) rfl rfl (fun _ _ _ h => h) (by rfl) ?_ ?_ ?_ ?_
                rotate_left
                ·
                 intro w'
                 go_simp
                 with_reducible rfl
                rotate_left
                ·
                 simp only [Act.put, sa_, s0_, s1_, i64_w, i32_w]
                 rfl
                refine pB_ 21 124 ?_ (b_ 30 4194303) (any_of HT_.out (by kernel_rfl)) rfl rfl (fun _ _ _ h => h) (by rfl) ?_ ?_
                rotate_left
                ·
                 simp only [Act.put, sa_, s0_, s1_, i64_w, i32_w]
                 rfl
                refine pB_ 22 125 ?_ (b_ 30 8388607) (any_of HT_.out (by kernel_rfl)) rfl rfl (fun _ _ _ h => h) (by rfl) ?_ ?_
                rotate_left
                ·
                 simp only [Act.put, sa_, s0_, s1_, i64_w, i32_w]
                 rfl
                refine pB_ 23 126 ?_ (b_ 30 16777215) (any_of HT_.out (by kernel_rfl)) rfl rfl (fun _ _ _ h => h) (by rfl) ?_ ?_
                rotate_left
                ·
                 simp only [Act.put, sa_, s0_, s1_, i64_w, i32_w]
                 rfl
                refine pB_ 24 127 ?_ (b_ 30 33554431) (any_of HT_.out (by kernel_rfl)) rfl rfl (fun _ _ _ h => h) (by rfl) ?_ ?_
                rotate_left
                ·
                 simp only [Act.put, sa_, s0_, s1_, i64_w, i32_w]
                 rfl
                refine pB_ 25 128 ?_ (b_ 30 67108863) (any_of HT_.out (by kernel_rfl)) rfl rfl (fun _ _ _ h => h) (by rfl) ?_ ?_
                rotate_left
                ·
                 simp only [Act.put, sa_, s0_, s1_, i64_w, i32_w]
                 rfl
                refine pB_ 26 129 ?_ (b_ 30 134217727) (any_of HT_.out (by kernel_rfl)) rfl rfl (fun _ _ _ h => h) (by rfl) ?_ ?_
                rotate_left
                ·
                 simp only [Act.put, sa_, s0_, s1_, i64_w, i32_w]
                 rfl
                refine pB_ 27 130 ?_ (b_ 30 268435455) (any_of HT_.out (by kernel_rfl)) rfl rfl (fun _ _ _ h => h) (by rfl) ?_ ?_
                rotate_left
                ·
                 simp only [Act.put, sa_, s0_, s1_, i64_w, i32_w]
                 rfl
                refine pB_ 28 131 ?_ (b_ 30 536870911) (any_of HT_.out (by kernel_rfl)) rfl rfl (fun _ _ _ h => h) (by rfl) ?_ ?_
                rotate_left
                ·
                 simp only [Act.put, sa_, s0_, s1_, i64_w, i32_w]
                 rfl
                refine pA_ 29 132 ?_ (b_ 30 1073741823) (any_of HT_.out (by kernel_rfl)) rfl rfl (fun _ _ _ h => h) (by rfl) ?_ ?_ ?_ ?_
                rotate_left
                ·
                 intro w'
                 go_simp
                 with_reducible rfl
                rotate_left
                ·
                 simp only [Act.put, sa_, s0_, s1_, i64_w, i32_w]
                 rfl
                refine done_ (done_of HT_.out (by kernel_rfl)) ?_
                try go_wp2
                go_ret
                exact ⟨by first | rfl | (simp [errW_none, errW_some] <;> rfl) | (simp [*, errW_none, errW_some] <;> rfl) | exact ret_ie _ | (simp [*, errW_none, errW_some, bne]; done), by repeat (first | (with_reducible first | exact HB.out | apply below_alloc | apply pw_below_drewN | apply below_drew1 | refine below_set ?_ GE231.out) | exact HB.out)⟩
               ·
                rw [if_neg c81] at H
                have c81b0 : (Op.bytesLess ((mnS ((rd_T32 t234 x16_3).f4) a3).toList) ((mxS ((rd_T32 t234 x16_3).f3) a2).toList)) = false := by simpa using c81
                clear c81
                replace H := Option.bind_eq_some_iff.mp H
                obtain ⟨t248, A840, H⟩ := H
                replace H : (if t248 = a1 then (millhandlaw16_VersionMeets.l1 k3 a1 a2 a3 t234 (wrap64 (x16_3 + 1)) l0_0 a0_1 a0_2 a0_3) else (some false)) = some r := H
                have A84 := Aside0.mk A840
                clear A840
                by_cases c85 : t248 = a1
                ·
                 rw [if_pos c85] at H
                 have c85b0 : (t248 == a1) = true := beq_iff_eq.mpr c85
                 have c85b1 : (t248 != a1) = false := bne_eq_false_iff_eq.mpr c85
                 clear c85
                 have H' := Aside0.mk H
                 clear H
                 obtain ⟨Ao86, co86, eo86⟩ := Kd.R_slice HO_12.out
                 subst eo86
                 try go_wp2
                 have n0_ := Aside0.mk (Kd.R_drew HO_12.out)
                 have n1_ := Aside0.mk (blk_drew BK231.out)
                 have n2_ := Aside0.mk (below_drew1 HB.out)
                 clear HO_12
                 clear BK231
                 clear HB
                 have HO_12 := n0_
                 have BK231 := n1_
                 have HB := n2_
                 clear n0_ n1_ n2_
                 have p245 : 0 ≤ (x16_3 : Int) := of_decide_eq_true (by first | (with_reducible assumption) | assumption)
                 have q245 : x16_3 < (t234.length : Int) := of_decide_eq_true (by first | (with_reducible assumption) | assumption)
                 obtain ⟨ad245, e245, hx245_0, hx245_1, hx245_2, hx245_3, hx245_4⟩ := at_T32 (Kd.R_reads' HO_12.out).2.2 x16_3 p245 q245
                 cases e245
                 replace p245 := eq_true p245
                 replace q245 := eq_true q245
                 have p246 : 0 ≤ (x16_3 : Int) := of_decide_eq_true (by first | (with_reducible assumption) | assumption)
                 have q246 : x16_3 < (t234.length : Int) := of_decide_eq_true (by first | (with_reducible assumption) | assumption)
                 obtain ⟨ad246, e246, hx246_0, hx246_1, hx246_2, hx246_3, hx246_4⟩ := at_T32 (Kd.R_reads' HO_12.out).2.2 x16_3 p246 q246
                 obtain rfl : ad245 = ad246 := (by injection e246)
                 replace p246 := eq_true p246
                 replace q246 := eq_true q246
                 have p247 : 0 ≤ (x16_3 : Int) := of_decide_eq_true (by first | (with_reducible assumption) | assumption)
                 have q247 : x16_3 < (t234.length : Int) := of_decide_eq_true (by first | (with_reducible assumption) | assumption)
                 obtain ⟨ad247, e247, hx247_0, hx247_1, hx247_2, hx247_3, hx247_4⟩ := at_T32 (Kd.R_reads' HO_12.out).2.2 x16_3 p247 q247
                 obtain rfl : ad245 = ad247 := (by injection e247)
                 replace p247 := eq_true p247
                 replace q247 := eq_true q247
                 refine start_ (n := 30) (S := fun w' => w'.cell? ⟨gb231, 0, none⟩ = some (.slice (some ad238) l0_0.length c0_0) ∧ w'.cell? ⟨gb231, 1, none⟩ = some (.int .i64 a0_1) ∧ w'.cell? ⟨gb231, 2, none⟩ = some (.int .i64 a0_2) ∧ w'.cell? ⟨gb231, 3, none⟩ = some (.string a0_3) ∧ w'.cell? (ad245.add ((x16_3).toNat * 5)) = some (.string ((rd_T32 t234 x16_3).f0)) ∧ w'.cell? ⟨(ad245.add ((x16_3).toNat * 5)).block, (ad245.add ((x16_3).toNat * 5)).off + 1, none⟩ = some (.int .i64 ((rd_T32 t234 x16_3).f1)) ∧ w'.cell? ⟨(ad245.add ((x16_3).toNat * 5)).block, (ad245.add ((x16_3).toNat * 5)).off + 2, none⟩ = some (.int .i64 ((rd_T32 t234 x16_3).f2)) ∧ w'.cell? ⟨(ad245.add ((x16_3).toNat * 5)).block, (ad245.add ((x16_3).toNat * 5)).off + 3, none⟩ = some (.string ((rd_T32 t234 x16_3).f3)) ∧ w'.cell? ⟨(ad245.add ((x16_3).toNat * 5)).block, (ad245.add ((x16_3).toNat * 5)).off + 4, none⟩ = some (.string ((rd_T32 t234 x16_3).f4)) ∧ w'.cell? (ad245.add ((x16_3).toNat * 5)) = some (.string ((rd_T32 t234 x16_3).f0)) ∧ w'.cell? ⟨(ad245.add ((x16_3).toNat * 5)).block, (ad245.add ((x16_3).toNat * 5)).off + 1, none⟩ = some (.int .i64 ((rd_T32 t234 x16_3).f1)) ∧ w'.cell? ⟨(ad245.add ((x16_3).toNat * 5)).block, (ad245.add ((x16_3).toNat * 5)).off + 2, none⟩ = some (.int .i64 ((rd_T32 t234 x16_3).f2)) ∧ w'.cell? ⟨(ad245.add ((x16_3).toNat * 5)).block, (ad245.add ((x16_3).toNat * 5)).off + 3, none⟩ = some (.string ((rd_T32 t234 x16_3).f3)) ∧ w'.cell? ⟨(ad245.add ((x16_3).toNat * 5)).block, (ad245.add ((x16_3).toNat * 5)).off + 4, none⟩ = some (.string ((rd_T32 t234 x16_3).f4)) ∧ w'.cell? (ad245.add ((x16_3).toNat * 5)) = some (.string ((rd_T32 t234 x16_3).f0)) ∧ w'.cell? ⟨(ad245.add ((x16_3).toNat * 5)).block, (ad245.add ((x16_3).toNat * 5)).off + 1, none⟩ = some (.int .i64 ((rd_T32 t234 x16_3).f1)) ∧ w'.cell? ⟨(ad245.add ((x16_3).toNat * 5)).block, (ad245.add ((x16_3).toNat * 5)).off + 2, none⟩ = some (.int .i64 ((rd_T32 t234 x16_3).f2)) ∧ w'.cell? ⟨(ad245.add ((x16_3).toNat * 5)).block, (ad245.add ((x16_3).toNat * 5)).off + 3, none⟩ = some (.string ((rd_T32 t234 x16_3).f3)) ∧ w'.cell? ⟨(ad245.add ((x16_3).toNat * 5)).block, (ad245.add ((x16_3).toNat * 5)).off + 4, none⟩ = some (.string ((rd_T32 t234 x16_3).f4))) (ds := []) (b_ 30 0) (by kernel_rfl) rfl rfl ⟨(blk_cell BK231.out 0).trans rfl, (blk_cell BK231.out 1).trans rfl, (blk_cell BK231.out 2).trans rfl, (blk_cell BK231.out 3).trans rfl, hx245_0, hx245_1, hx245_2, hx245_3, hx245_4, hx246_0, hx246_1, hx246_2, hx246_3, hx246_4, hx247_0, hx247_1, hx247_2, hx247_3, hx247_4⟩ (fun hHeld => ?_); refine with_tabW millhandlaw16_VersionMeets.tab16 millhandlaw16_VersionMeets.bits16 (fun HT_ HW_ => ?_)
                 generalize wr.drew = w87 at HO_12 BK231 HB hx245_0 hx245_1 hx245_2 hx245_3 hx245_4 hx246_0 hx246_1 hx246_2 hx246_3 hx246_4 hx247_0 hx247_1 hx247_2 hx247_3 hx247_4 hHeld ⊢
                 refine pA_ 0 103 ?_ (b_ 30 1) (any_of HT_.out (by kernel_rfl)) rfl rfl (fun _ _ _ h => h) (by rfl) ?_ ?_ ?_ ?_
                 rotate_left
                 ·
                  intro w'
                  go_simp
                  with_reducible rfl
                 rotate_left
                 ·
                  simp only [Act.put, sa_, s0_, s1_, i64_w, i32_w]
                  rfl
                 refine pA_ 1 104 ?_ (b_ 30 3) (any_of HT_.out (by kernel_rfl)) rfl rfl (fun _ _ _ h => h) (by rfl) ?_ ?_ ?_ ?_
                 rotate_left
                 ·
                  intro w'
                  go_simp
                  with_reducible rfl
                 rotate_left
                 ·
                  simp only [Act.put, sa_, s0_, s1_, i64_w, i32_w]
                  rfl
                 refine pA_ 2 105 ?_ (b_ 30 7) (any_of HT_.out (by kernel_rfl)) rfl rfl (fun _ _ _ h => h) (by rfl) ?_ ?_ ?_ ?_
                 rotate_left
                 ·
                  intro w'
                  go_simp
                  with_reducible rfl
                 rotate_left
                 ·
                  simp only [Act.put, sa_, s0_, s1_, i64_w, i32_w]
                  rfl
                 refine pA_ 3 106 ?_ (b_ 30 15) (any_of HT_.out (by kernel_rfl)) rfl rfl (fun _ _ _ h => h) (by rfl) ?_ ?_ ?_ ?_
                 rotate_left
                 ·
                  intro w'
                  go_simp
                  with_reducible rfl
                 rotate_left
                 ·
                  simp only [Act.put, sa_, s0_, s1_, i64_w, i32_w]
                  rfl
                 refine pA_ 4 107 ?_ (b_ 30 31) (any_of HT_.out (by kernel_rfl)) rfl rfl (fun _ _ _ h => h) (by rfl) ?_ ?_ ?_ ?_
                 rotate_left
                 ·
                  intro w'
                  go_simp
                  with_reducible rfl
                 rotate_left
                 ·
                  simp only [Act.put, sa_, s0_, s1_, i64_w, i32_w]
                  rfl
                 refine pA_ 5 108 ?_ (b_ 30 63) (any_of HT_.out (by kernel_rfl)) rfl rfl (fun _ _ _ h => h) (by rfl) ?_ ?_ ?_ ?_
                 rotate_left
                 ·
                  intro w'
                  go_simp
                  with_reducible rfl
                 rotate_left
                 ·
                  simp only [Act.put, sa_, s0_, s1_, i64_w, i32_w]
                  rfl
                 refine pA_ 6 109 ?_ (b_ 30 127) (any_of HT_.out (by kernel_rfl)) rfl rfl (fun _ _ _ h => h) (by rfl) ?_ ?_ ?_ ?_
                 rotate_left
                 ·
                  intro w'
                  go_simp
                  with_reducible rfl
                 rotate_left
                 ·
                  simp only [Act.put, sa_, s0_, s1_, i64_w, i32_w]
                  rfl
                 refine pA_ 7 110 ?_ (b_ 30 255) (any_of HT_.out (by kernel_rfl)) rfl rfl (fun _ _ _ h => h) (by rfl) ?_ ?_ ?_ ?_
                 rotate_left
                 ·
                  intro w'
                  go_simp
                  with_reducible rfl
                 rotate_left
                 ·
                  simp only [Act.put, sa_, s0_, s1_, i64_w, i32_w]
                  rfl
                 refine pA_ 9 112 ?_ (b_ 30 767) (any_of HT_.out (by kernel_rfl)) rfl rfl (fun _ _ _ h => h) (by rfl) ?_ ?_ ?_ ?_
                 rotate_left
                 ·
                  intro w'
                  go_simp
                  with_reducible rfl
                 rotate_left
                 ·
                  simp only [Act.put, sa_, s0_, s1_, i64_w, i32_w]
                  rfl
                 refine pA_ 11 114 ?_ (b_ 30 2815) (any_of HT_.out (by kernel_rfl)) rfl rfl (fun _ _ _ h => h) (by rfl) ?_ ?_ ?_ ?_
                 rotate_left
                 ·
                  intro w'
                  go_simp
                  with_reducible rfl
                 rotate_left
                 ·
                  simp only [Act.put, sa_, s0_, s1_, i64_w, i32_w]
                  rfl
                 refine pA_ 12 115 ?_ (b_ 30 6911) (any_of HT_.out (by kernel_rfl)) rfl rfl (fun _ _ _ h => h) (by rfl) ?_ ?_ ?_ ?_
                 rotate_left
                 ·
                  intro w'
                  go_simp
                  with_reducible rfl
                 rotate_left
                 ·
                  simp only [Act.put, sa_, s0_, s1_, i64_w, i32_w]
                  rfl
                 refine pA_ 13 116 ?_ (b_ 30 15103) (any_of HT_.out (by kernel_rfl)) rfl rfl (fun _ _ _ h => h) (by rfl) ?_ ?_ ?_ ?_
                 rotate_left
                 ·
                  intro w'
                  go_simp
                  with_reducible rfl
                 rotate_left
                 ·
                  simp only [Act.put, sa_, s0_, s1_, i64_w, i32_w]
                  rfl
                 refine pA_ 14 117 ?_ (b_ 30 31487) (any_of HT_.out (by kernel_rfl)) rfl rfl (fun _ _ _ h => h) (by rfl) ?_ ?_ ?_ ?_
                 rotate_left
                 ·
                  intro w'
                  go_simp
                  with_reducible rfl
                 rotate_left
                 ·
                  simp only [Act.put, sa_, s0_, s1_, i64_w, i32_w]
                  rfl
                 refine pA_ 16 119 ?_ (b_ 30 97023) (any_of HT_.out (by kernel_rfl)) rfl rfl (fun _ _ _ h => h) (by rfl) ?_ ?_ ?_ ?_
                 rotate_left
                 ·
                  intro w'
                  go_simp
                  with_reducible rfl
                 rotate_left
                 ·
                  simp only [Act.put, sa_, s0_, s1_, i64_w, i32_w]
                  rfl
                 refine tA_ 8 111 ?_ (b_ 30 97279) (take_ofW HT_.out HW_.out (by kernel_rfl)) rfl rfl (fun _ _ _ h => h) (by rfl) ?_ hHeld ?_ ?_ ?_
                 rotate_left
                 ·
                  rintro w' ⟨s0, s1, s2, s3, s4, s5, s6, s7, s8, s9, s10, s11, s12, s13, s14, s15, s16, s17, s18⟩
                  go_simp
                  with_reducible rfl
                 rotate_left
                 ·
                  simp only [Act.put, sa_, s0_, s1_, i64_w, i32_w]
                  rfl
                 refine pA_ 10 113 ?_ (b_ 30 98303) (any_of HT_.out (by kernel_rfl)) rfl rfl (fun _ _ _ h => h) (by rfl) ?_ ?_ ?_ ?_
                 rotate_left
                 ·
                  intro w'
                  go_simp
                  with_reducible rfl
                 rotate_left
                 ·
                  simp only [Act.put, sa_, s0_, s1_, i64_w, i32_w]
                  rfl
                 refine tA_ 15 118 ?_ (b_ 30 131071) (take_ofW HT_.out HW_.out (by kernel_rfl)) rfl rfl (fun _ _ _ h => h) (by rfl) ?_ hHeld ?_ ?_ ?_
                 rotate_left
                 ·
                  rintro w' ⟨s0, s1, s2, s3, s4, s5, s6, s7, s8, s9, s10, s11, s12, s13, s14, s15, s16, s17, s18⟩
                  go_simp
                  with_reducible rfl
                 rotate_left
                 ·
                  simp only [Act.put, sa_, s0_, s1_, i64_w, i32_w]
                  rfl
                 refine pA_ 17 120 ?_ (b_ 30 262143) (any_of HT_.out (by kernel_rfl)) rfl rfl (fun _ _ _ h => h) (by rfl) ?_ ?_ ?_ ?_
                 rotate_left
                 ·
                  intro w'
                  go_simp
                  with_reducible rfl
                 rotate_left
                 ·
                  simp only [Act.put, sa_, s0_, s1_, i64_w, i32_w]
                  rfl
                 refine pA_ 18 121 ?_ (b_ 30 524287) (any_of HT_.out (by kernel_rfl)) rfl rfl (fun _ _ _ h => h) (by rfl) ?_ ?_ ?_ ?_
                 rotate_left
                 ·
                  intro w'
                  go_simp
                  with_reducible rfl
                 rotate_left
                 ·
                  simp only [Act.put, sa_, s0_, s1_, i64_w, i32_w]
                  rfl
                 refine pA_ 19 122 ?_ (b_ 30 1048575) (any_of HT_.out (by kernel_rfl)) rfl rfl (fun _ _ _ h => h) (by rfl) ?_ ?_ ?_ ?_
                 rotate_left
                 ·
                  intro w'
                  go_simp
                  with_reducible rfl
                 rotate_left
                 ·
                  simp only [Act.put, sa_, s0_, s1_, i64_w, i32_w]
                  rfl
                 refine pA_ 20 123 ?_ (b_ 30 2097151) (any_of HT_.out (by kernel_rfl)) rfl rfl (fun _ _ _ h => h) (by rfl) ?_ ?_ ?_ ?_
                 rotate_left
                 ·
                  intro w'
                  go_simp
                  with_reducible rfl
                 rotate_left
                 ·
                  simp only [Act.put, sa_, s0_, s1_, i64_w, i32_w]
                  rfl
                 refine pA_ 22 125 ?_ (b_ 30 6291455) (any_of HT_.out (by kernel_rfl)) rfl rfl (fun _ _ _ h => h) (by rfl) ?_ ?_ ?_ ?_
                 rotate_left
                 ·
                  intro w'
                  go_simp
                  with_reducible rfl
                 rotate_left
                 ·
                  simp only [Act.put, sa_, s0_, s1_, i64_w, i32_w]
                  rfl
                 refine pA_ 23 126 ?_ (b_ 30 14680063) (any_of HT_.out (by kernel_rfl)) rfl rfl (fun _ _ _ h => h) (by rfl) ?_ ?_ ?_ ?_
                 rotate_left
                 ·
                  intro w'
                  go_simp
                  with_reducible rfl
                 rotate_left
                 ·
                  simp only [Act.put, sa_, s0_, s1_, i64_w, i32_w]
                  rfl
                 refine pA_ 24 127 ?_ (b_ 30 31457279) (any_of HT_.out (by kernel_rfl)) rfl rfl (fun _ _ _ h => h) (by rfl) ?_ ?_ ?_ ?_
                 rotate_left
                 ·
                  intro w'
                  go_simp
                  with_reducible rfl
                 rotate_left
                 ·
                  simp only [Act.put, sa_, s0_, s1_, i64_w, i32_w]
                  rfl
                 refine pA_ 27 130 ?_ (b_ 30 165675007) (any_of HT_.out (by kernel_rfl)) rfl rfl (fun _ _ _ h => h) (by rfl) ?_ ?_ ?_ ?_
                 rotate_left
                 ·
                  intro w'
                  go_simp
                  with_reducible rfl
                 rotate_left
                 ·
                  simp only [Act.put, sa_, s0_, s1_, i64_w, i32_w]
                  rfl
                 refine tA_ 21 124 ?_ (b_ 30 167772159) (take_ofW HT_.out HW_.out (by kernel_rfl)) rfl rfl (fun _ _ _ h => h) (by rfl) ?_ hHeld ?_ ?_ ?_
                 rotate_left
                 ·
                  rintro w' ⟨s0, s1, s2, s3, s4, s5, s6, s7, s8, s9, s10, s11, s12, s13, s14, s15, s16, s17, s18⟩
                  go_simp
                  with_reducible rfl
                 rotate_left
                 ·
                  simp only [Act.put, sa_, s0_, s1_, i64_w, i32_w]
                  rfl
                 refine tA_ 25 128 ?_ (b_ 30 201326591) (take_ofW HT_.out HW_.out (by kernel_rfl)) rfl rfl (fun _ _ _ h => h) (by rfl) ?_ hHeld ?_ ?_ ?_
                 rotate_left
                 ·
                  rintro w' ⟨s0, s1, s2, s3, s4, s5, s6, s7, s8, s9, s10, s11, s12, s13, s14, s15, s16, s17, s18⟩
                  go_simp
                  with_reducible rfl
                 rotate_left
                 ·
                  simp only [Act.put, sa_, s0_, s1_, i64_w, i32_w]
                  rfl
                 refine one_ (i := 26) (N := some 129) (b_ 30 268435455) rfl rfl (one_of HT_.out (by kernel_rfl)) (by decide) (fun K hK => ?_)
                 refine goes_ Try.func12 (by kernel_rfl) rfl #[.agg #[.slice (some ad238) l0_0.length c0_0, .int .i64 a0_1, .int .i64 a0_2, .string a0_3], .agg #[.string ((rd_T32 t234 x16_3).f0), .int .i64 ((rd_T32 t234 x16_3).f1), .int .i64 ((rd_T32 t234 x16_3).f2), .string ((rd_T32 t234 x16_3).f3), .string ((rd_T32 t234 x16_3).f4)]] (by rfl) rfl rfl (by (try simp only [List.map_toArray, List.map_cons, List.map_nil]); first | done | rfl | (simp only [List.length_drop, List.length_take]; rfl)) ?_
                 with_reducible refine (millhandlaw16_at.calls k3 _ _ l0_0 a0_1 a0_2 a0_3 ((rd_T32 t234 x16_3).f0) ((rd_T32 t234 x16_3).f1) ((rd_T32 t234 x16_3).f2) ((rd_T32 t234 x16_3).f3) ((rd_T32 t234 x16_3).f4) t248 _ ?side1 ?side2 A84.out).mono ?_
                 (case side1 => repeat (first | exact (Kd.C_below HR0_0.out HB.out) | (with_reducible refine Kd.C_alloc ?_ _) | (with_reducible refine Kd.C_drewN ?_ _) | (with_reducible refine Kd.C_drew ?_)))
                 (case side2 => exact HC0_0.out)
                 rintro e w88 ⟨rfl, hb⟩
                 have HS4_ := (hb.cell (World.block_lt_of_cell? _ _ (hHeld.2.2.2.2.1))).trans (hHeld.2.2.2.2.1)
                 have HS5_ := (hb.cell (World.block_lt_of_cell? _ _ (hHeld.2.2.2.2.2.1))).trans (hHeld.2.2.2.2.2.1)
                 have HS6_ := (hb.cell (World.block_lt_of_cell? _ _ (hHeld.2.2.2.2.2.2.1))).trans (hHeld.2.2.2.2.2.2.1)
                 have HS7_ := (hb.cell (World.block_lt_of_cell? _ _ (hHeld.2.2.2.2.2.2.2.1))).trans (hHeld.2.2.2.2.2.2.2.1)
                 have HS8_ := (hb.cell (World.block_lt_of_cell? _ _ (hHeld.2.2.2.2.2.2.2.2.1))).trans (hHeld.2.2.2.2.2.2.2.2.1)
                 have HS9_ := (hb.cell (World.block_lt_of_cell? _ _ (hHeld.2.2.2.2.2.2.2.2.2.1))).trans (hHeld.2.2.2.2.2.2.2.2.2.1)
                 have HS10_ := (hb.cell (World.block_lt_of_cell? _ _ (hHeld.2.2.2.2.2.2.2.2.2.2.1))).trans (hHeld.2.2.2.2.2.2.2.2.2.2.1)
                 have HS11_ := (hb.cell (World.block_lt_of_cell? _ _ (hHeld.2.2.2.2.2.2.2.2.2.2.2.1))).trans (hHeld.2.2.2.2.2.2.2.2.2.2.2.1)
                 have HS12_ := (hb.cell (World.block_lt_of_cell? _ _ (hHeld.2.2.2.2.2.2.2.2.2.2.2.2.1))).trans (hHeld.2.2.2.2.2.2.2.2.2.2.2.2.1)
                 have HS13_ := (hb.cell (World.block_lt_of_cell? _ _ (hHeld.2.2.2.2.2.2.2.2.2.2.2.2.2.1))).trans (hHeld.2.2.2.2.2.2.2.2.2.2.2.2.2.1)
                 have HS14_ := (hb.cell (World.block_lt_of_cell? _ _ (hHeld.2.2.2.2.2.2.2.2.2.2.2.2.2.2.1))).trans (hHeld.2.2.2.2.2.2.2.2.2.2.2.2.2.2.1)
                 have HS15_ := (hb.cell (World.block_lt_of_cell? _ _ (hHeld.2.2.2.2.2.2.2.2.2.2.2.2.2.2.2.1))).trans (hHeld.2.2.2.2.2.2.2.2.2.2.2.2.2.2.2.1)
                 have HS16_ := (hb.cell (World.block_lt_of_cell? _ _ (hHeld.2.2.2.2.2.2.2.2.2.2.2.2.2.2.2.2.1))).trans (hHeld.2.2.2.2.2.2.2.2.2.2.2.2.2.2.2.2.1)
                 have HS17_ := (hb.cell (World.block_lt_of_cell? _ _ (hHeld.2.2.2.2.2.2.2.2.2.2.2.2.2.2.2.2.2.1))).trans (hHeld.2.2.2.2.2.2.2.2.2.2.2.2.2.2.2.2.2.1)
                 have HS18_ := (hb.cell (World.block_lt_of_cell? _ _ (hHeld.2.2.2.2.2.2.2.2.2.2.2.2.2.2.2.2.2.2))).trans (hHeld.2.2.2.2.2.2.2.2.2.2.2.2.2.2.2.2.2.2)
                 refine ⟨_, rfl, ?_⟩
                 have n0_ := Aside0.mk (Kd.R_below (by (with_reducible repeat (first | apply Kd.R_alloc | apply Kd.R_drewN | apply Kd.R_drew)); exact HO_12.out) hb)
                 have n1_ := Aside0.mk (blk_below (g := gb231) (o := .cells #[.slice (some ad238) l0_0.length c0_0, .int .i64 a0_1, .int .i64 a0_2, .string a0_3] 24 (0, 0)) (by (with_reducible repeat (first | refine blk_drewN ?_ _ | refine blk_drew ?_ | refine blk_alloc ?_ _)); exact BK231.out) hb)
                 have n2_ := Aside0.mk (below_step (by repeat (first | (with_reducible first | exact HB.out | apply below_alloc | apply pw_below_drewN | apply below_drew1 | refine below_set ?_ GE231.out) | exact HB.out)) hb)
                 clear HO_12
                 clear BK231
                 clear HB
                 have HO_12 := n0_
                 have BK231 := n1_
                 have HB := n2_
                 clear n0_ n1_ n2_
                 (try clear hb)
                 (try clear hb2)
                 (try clear hk)
                 (try clear hi)
                 refine hK.out _ _ ⟨(blk_cell BK231.out 0).trans rfl, (blk_cell BK231.out 1).trans rfl, (blk_cell BK231.out 2).trans rfl, (blk_cell BK231.out 3).trans rfl, HS4_, HS5_, HS6_, HS7_, HS8_, HS9_, HS10_, HS11_, HS12_, HS13_, HS14_, HS15_, HS16_, HS17_, HS18_⟩ (fun hHeld => ?_)
                 clear hK K
                 refine norm_ (a' := ?_) ?_ ?_
                 rotate_left
                 ·
                  show Act.put _ (some 129) _ = _
                  simp only [Act.put, sa_, s0_, s1_, i64_w, i32_w]
                  rfl
                 refine pA_ 28 131 ?_ (b_ 30 536870911) (any_of HT_.out (by kernel_rfl)) rfl rfl (fun _ _ _ h => h) (by rfl) ?_ ?_ ?_ ?_
                 rotate_left
                 ·
                  intro w'
                  go_simp
                  with_reducible rfl
                 rotate_left
                 ·
                  simp only [Act.put, sa_, s0_, s1_, i64_w, i32_w]
                  rfl
                 refine pA_ 29 132 ?_ (b_ 30 1073741823) (any_of HT_.out (by kernel_rfl)) rfl rfl (fun _ _ _ h => h) (by rfl) ?_ ?_ ?_ ?_
                 rotate_left
                 ·
                  intro w'
                  go_simp
                  with_reducible rfl
                 rotate_left
                 ·
                  simp only [Act.put, sa_, s0_, s1_, i64_w, i32_w]
                  rfl
                 refine done_ (done_of HT_.out (by kernel_rfl)) ?_
                 try go_wp2
                 go_roundg k3
                 case measure => have := HJ6.out; have := HK2.out; have := HK3.out; omega
                 case rel => exact ⟨(wrap64 (x16_3 + 1)), (by first | rfl | (simp; done) | (simp [*]; done)), H', ⟨by have := HJ6.out; have := HK2.out; have := HK3.out; omega⟩, ⟨by (with_reducible repeat (first | apply Kd.R_alloc | apply Kd.R_drewN | apply Kd.R_drew)); exact HO_12.out⟩, ⟨by (with_reducible repeat (first | refine blk_drewN ?_ _ | refine blk_drew ?_ | refine blk_alloc ?_ _)); exact BK231.out⟩, ⟨by repeat (first | (with_reducible first | exact HB.out | apply below_alloc | apply pw_below_drewN | apply below_drew1 | refine below_set ?_ GE231.out) | exact HB.out)⟩⟩
                ·
                 rw [if_neg c85] at H
                 have c85b0 : (t248 == a1) = false := beq_eq_false_iff_ne.mpr c85
                 have c85b1 : (t248 != a1) = true := bne_iff_ne.mpr c85
                 obtain rfl := Option.some.inj H
                 obtain ⟨Ao89, co89, eo89⟩ := Kd.R_slice HO_12.out
                 subst eo89
                 try go_wp2
                 have n0_ := Aside0.mk (Kd.R_drew HO_12.out)
                 have n1_ := Aside0.mk (blk_drew BK231.out)
                 have n2_ := Aside0.mk (below_drew1 HB.out)
                 clear HO_12
                 clear BK231
                 clear HB
                 have HO_12 := n0_
                 have BK231 := n1_
                 have HB := n2_
                 clear n0_ n1_ n2_
                 have p245 : 0 ≤ (x16_3 : Int) := of_decide_eq_true (by first | (with_reducible assumption) | assumption)
                 have q245 : x16_3 < (t234.length : Int) := of_decide_eq_true (by first | (with_reducible assumption) | assumption)
                 obtain ⟨ad245, e245, hx245_0, hx245_1, hx245_2, hx245_3, hx245_4⟩ := at_T32 (Kd.R_reads' HO_12.out).2.2 x16_3 p245 q245
                 cases e245
                 replace p245 := eq_true p245
                 replace q245 := eq_true q245
                 have p246 : 0 ≤ (x16_3 : Int) := of_decide_eq_true (by first | (with_reducible assumption) | assumption)
                 have q246 : x16_3 < (t234.length : Int) := of_decide_eq_true (by first | (with_reducible assumption) | assumption)
                 obtain ⟨ad246, e246, hx246_0, hx246_1, hx246_2, hx246_3, hx246_4⟩ := at_T32 (Kd.R_reads' HO_12.out).2.2 x16_3 p246 q246
                 obtain rfl : ad245 = ad246 := (by injection e246)
                 replace p246 := eq_true p246
                 replace q246 := eq_true q246
                 have p247 : 0 ≤ (x16_3 : Int) := of_decide_eq_true (by first | (with_reducible assumption) | assumption)
                 have q247 : x16_3 < (t234.length : Int) := of_decide_eq_true (by first | (with_reducible assumption) | assumption)
                 obtain ⟨ad247, e247, hx247_0, hx247_1, hx247_2, hx247_3, hx247_4⟩ := at_T32 (Kd.R_reads' HO_12.out).2.2 x16_3 p247 q247
                 obtain rfl : ad245 = ad247 := (by injection e247)
                 replace p247 := eq_true p247
                 replace q247 := eq_true q247
                 refine start_ (n := 30) (S := fun w' => w'.cell? ⟨gb231, 0, none⟩ = some (.slice (some ad238) l0_0.length c0_0) ∧ w'.cell? ⟨gb231, 1, none⟩ = some (.int .i64 a0_1) ∧ w'.cell? ⟨gb231, 2, none⟩ = some (.int .i64 a0_2) ∧ w'.cell? ⟨gb231, 3, none⟩ = some (.string a0_3) ∧ w'.cell? (ad245.add ((x16_3).toNat * 5)) = some (.string ((rd_T32 t234 x16_3).f0)) ∧ w'.cell? ⟨(ad245.add ((x16_3).toNat * 5)).block, (ad245.add ((x16_3).toNat * 5)).off + 1, none⟩ = some (.int .i64 ((rd_T32 t234 x16_3).f1)) ∧ w'.cell? ⟨(ad245.add ((x16_3).toNat * 5)).block, (ad245.add ((x16_3).toNat * 5)).off + 2, none⟩ = some (.int .i64 ((rd_T32 t234 x16_3).f2)) ∧ w'.cell? ⟨(ad245.add ((x16_3).toNat * 5)).block, (ad245.add ((x16_3).toNat * 5)).off + 3, none⟩ = some (.string ((rd_T32 t234 x16_3).f3)) ∧ w'.cell? ⟨(ad245.add ((x16_3).toNat * 5)).block, (ad245.add ((x16_3).toNat * 5)).off + 4, none⟩ = some (.string ((rd_T32 t234 x16_3).f4)) ∧ w'.cell? (ad245.add ((x16_3).toNat * 5)) = some (.string ((rd_T32 t234 x16_3).f0)) ∧ w'.cell? ⟨(ad245.add ((x16_3).toNat * 5)).block, (ad245.add ((x16_3).toNat * 5)).off + 1, none⟩ = some (.int .i64 ((rd_T32 t234 x16_3).f1)) ∧ w'.cell? ⟨(ad245.add ((x16_3).toNat * 5)).block, (ad245.add ((x16_3).toNat * 5)).off + 2, none⟩ = some (.int .i64 ((rd_T32 t234 x16_3).f2)) ∧ w'.cell? ⟨(ad245.add ((x16_3).toNat * 5)).block, (ad245.add ((x16_3).toNat * 5)).off + 3, none⟩ = some (.string ((rd_T32 t234 x16_3).f3)) ∧ w'.cell? ⟨(ad245.add ((x16_3).toNat * 5)).block, (ad245.add ((x16_3).toNat * 5)).off + 4, none⟩ = some (.string ((rd_T32 t234 x16_3).f4)) ∧ w'.cell? (ad245.add ((x16_3).toNat * 5)) = some (.string ((rd_T32 t234 x16_3).f0)) ∧ w'.cell? ⟨(ad245.add ((x16_3).toNat * 5)).block, (ad245.add ((x16_3).toNat * 5)).off + 1, none⟩ = some (.int .i64 ((rd_T32 t234 x16_3).f1)) ∧ w'.cell? ⟨(ad245.add ((x16_3).toNat * 5)).block, (ad245.add ((x16_3).toNat * 5)).off + 2, none⟩ = some (.int .i64 ((rd_T32 t234 x16_3).f2)) ∧ w'.cell? ⟨(ad245.add ((x16_3).toNat * 5)).block, (ad245.add ((x16_3).toNat * 5)).off + 3, none⟩ = some (.string ((rd_T32 t234 x16_3).f3)) ∧ w'.cell? ⟨(ad245.add ((x16_3).toNat * 5)).block, (ad245.add ((x16_3).toNat * 5)).off + 4, none⟩ = some (.string ((rd_T32 t234 x16_3).f4))) (ds := []) (b_ 30 0) (by kernel_rfl) rfl rfl ⟨(blk_cell BK231.out 0).trans rfl, (blk_cell BK231.out 1).trans rfl, (blk_cell BK231.out 2).trans rfl, (blk_cell BK231.out 3).trans rfl, hx245_0, hx245_1, hx245_2, hx245_3, hx245_4, hx246_0, hx246_1, hx246_2, hx246_3, hx246_4, hx247_0, hx247_1, hx247_2, hx247_3, hx247_4⟩ (fun hHeld => ?_); refine with_tabW millhandlaw16_VersionMeets.tab16 millhandlaw16_VersionMeets.bits16 (fun HT_ HW_ => ?_)
                 generalize wr.drew = w90 at HO_12 BK231 HB hx245_0 hx245_1 hx245_2 hx245_3 hx245_4 hx246_0 hx246_1 hx246_2 hx246_3 hx246_4 hx247_0 hx247_1 hx247_2 hx247_3 hx247_4 hHeld ⊢
                 refine pA_ 0 103 ?_ (b_ 30 1) (any_of HT_.out (by kernel_rfl)) rfl rfl (fun _ _ _ h => h) (by rfl) ?_ ?_ ?_ ?_
                 rotate_left
                 ·
                  intro w'
                  go_simp
                  with_reducible rfl
                 rotate_left
                 ·
                  simp only [Act.put, sa_, s0_, s1_, i64_w, i32_w]
                  rfl
                 refine pA_ 1 104 ?_ (b_ 30 3) (any_of HT_.out (by kernel_rfl)) rfl rfl (fun _ _ _ h => h) (by rfl) ?_ ?_ ?_ ?_
                 rotate_left
                 ·
                  intro w'
                  go_simp
                  with_reducible rfl
                 rotate_left
                 ·
                  simp only [Act.put, sa_, s0_, s1_, i64_w, i32_w]
                  rfl
                 refine pA_ 2 105 ?_ (b_ 30 7) (any_of HT_.out (by kernel_rfl)) rfl rfl (fun _ _ _ h => h) (by rfl) ?_ ?_ ?_ ?_
                 rotate_left
                 ·
                  intro w'
                  go_simp
                  with_reducible rfl
                 rotate_left
                 ·
                  simp only [Act.put, sa_, s0_, s1_, i64_w, i32_w]
                  rfl
                 refine pA_ 3 106 ?_ (b_ 30 15) (any_of HT_.out (by kernel_rfl)) rfl rfl (fun _ _ _ h => h) (by rfl) ?_ ?_ ?_ ?_
                 rotate_left
                 ·
                  intro w'
                  go_simp
                  with_reducible rfl
                 rotate_left
                 ·
                  simp only [Act.put, sa_, s0_, s1_, i64_w, i32_w]
                  rfl
                 refine pA_ 4 107 ?_ (b_ 30 31) (any_of HT_.out (by kernel_rfl)) rfl rfl (fun _ _ _ h => h) (by rfl) ?_ ?_ ?_ ?_
                 rotate_left
                 ·
                  intro w'
                  go_simp
                  with_reducible rfl
                 rotate_left
                 ·
                  simp only [Act.put, sa_, s0_, s1_, i64_w, i32_w]
                  rfl
                 refine pA_ 5 108 ?_ (b_ 30 63) (any_of HT_.out (by kernel_rfl)) rfl rfl (fun _ _ _ h => h) (by rfl) ?_ ?_ ?_ ?_
                 rotate_left
                 ·
                  intro w'
                  go_simp
                  with_reducible rfl
                 rotate_left
                 ·
                  simp only [Act.put, sa_, s0_, s1_, i64_w, i32_w]
                  rfl
                 refine pA_ 6 109 ?_ (b_ 30 127) (any_of HT_.out (by kernel_rfl)) rfl rfl (fun _ _ _ h => h) (by rfl) ?_ ?_ ?_ ?_
                 rotate_left
                 ·
                  intro w'
                  go_simp
                  with_reducible rfl
                 rotate_left
                 ·
                  simp only [Act.put, sa_, s0_, s1_, i64_w, i32_w]
                  rfl
                 refine pA_ 7 110 ?_ (b_ 30 255) (any_of HT_.out (by kernel_rfl)) rfl rfl (fun _ _ _ h => h) (by rfl) ?_ ?_ ?_ ?_
                 rotate_left
                 ·
                  intro w'
                  go_simp
                  with_reducible rfl
                 rotate_left
                 ·
                  simp only [Act.put, sa_, s0_, s1_, i64_w, i32_w]
                  rfl
                 refine pA_ 9 112 ?_ (b_ 30 767) (any_of HT_.out (by kernel_rfl)) rfl rfl (fun _ _ _ h => h) (by rfl) ?_ ?_ ?_ ?_
                 rotate_left
                 ·
                  intro w'
                  go_simp
                  with_reducible rfl
                 rotate_left
                 ·
                  simp only [Act.put, sa_, s0_, s1_, i64_w, i32_w]
                  rfl
                 refine pA_ 11 114 ?_ (b_ 30 2815) (any_of HT_.out (by kernel_rfl)) rfl rfl (fun _ _ _ h => h) (by rfl) ?_ ?_ ?_ ?_
                 rotate_left
                 ·
                  intro w'
                  go_simp
                  with_reducible rfl
                 rotate_left
                 ·
                  simp only [Act.put, sa_, s0_, s1_, i64_w, i32_w]
                  rfl
                 refine pA_ 12 115 ?_ (b_ 30 6911) (any_of HT_.out (by kernel_rfl)) rfl rfl (fun _ _ _ h => h) (by rfl) ?_ ?_ ?_ ?_
                 rotate_left
                 ·
                  intro w'
                  go_simp
                  with_reducible rfl
                 rotate_left
                 ·
                  simp only [Act.put, sa_, s0_, s1_, i64_w, i32_w]
                  rfl
                 refine pA_ 13 116 ?_ (b_ 30 15103) (any_of HT_.out (by kernel_rfl)) rfl rfl (fun _ _ _ h => h) (by rfl) ?_ ?_ ?_ ?_
                 rotate_left
                 ·
                  intro w'
                  go_simp
                  with_reducible rfl
                 rotate_left
                 ·
                  simp only [Act.put, sa_, s0_, s1_, i64_w, i32_w]
                  rfl
                 refine pA_ 14 117 ?_ (b_ 30 31487) (any_of HT_.out (by kernel_rfl)) rfl rfl (fun _ _ _ h => h) (by rfl) ?_ ?_ ?_ ?_
                 rotate_left
                 ·
                  intro w'
                  go_simp
                  with_reducible rfl
                 rotate_left
                 ·
                  simp only [Act.put, sa_, s0_, s1_, i64_w, i32_w]
                  rfl
                 refine pA_ 16 119 ?_ (b_ 30 97023) (any_of HT_.out (by kernel_rfl)) rfl rfl (fun _ _ _ h => h) (by rfl) ?_ ?_ ?_ ?_
                 rotate_left
                 ·
                  intro w'
                  go_simp
                  with_reducible rfl
                 rotate_left
                 ·
                  simp only [Act.put, sa_, s0_, s1_, i64_w, i32_w]
                  rfl
                 refine tA_ 8 111 ?_ (b_ 30 97279) (take_ofW HT_.out HW_.out (by kernel_rfl)) rfl rfl (fun _ _ _ h => h) (by rfl) ?_ hHeld ?_ ?_ ?_
                 rotate_left
                 ·
                  rintro w' ⟨s0, s1, s2, s3, s4, s5, s6, s7, s8, s9, s10, s11, s12, s13, s14, s15, s16, s17, s18⟩
                  go_simp
                  with_reducible rfl
                 rotate_left
                 ·
                  simp only [Act.put, sa_, s0_, s1_, i64_w, i32_w]
                  rfl
                 refine pA_ 10 113 ?_ (b_ 30 98303) (any_of HT_.out (by kernel_rfl)) rfl rfl (fun _ _ _ h => h) (by rfl) ?_ ?_ ?_ ?_
                 rotate_left
                 ·
                  intro w'
                  go_simp
                  with_reducible rfl
                 rotate_left
                 ·
                  simp only [Act.put, sa_, s0_, s1_, i64_w, i32_w]
                  rfl
                 refine tA_ 15 118 ?_ (b_ 30 131071) (take_ofW HT_.out HW_.out (by kernel_rfl)) rfl rfl (fun _ _ _ h => h) (by rfl) ?_ hHeld ?_ ?_ ?_
                 rotate_left
                 ·
                  rintro w' ⟨s0, s1, s2, s3, s4, s5, s6, s7, s8, s9, s10, s11, s12, s13, s14, s15, s16, s17, s18⟩
                  go_simp
                  with_reducible rfl
                 rotate_left
                 ·
                  simp only [Act.put, sa_, s0_, s1_, i64_w, i32_w]
                  rfl
                 refine pA_ 17 120 ?_ (b_ 30 262143) (any_of HT_.out (by kernel_rfl)) rfl rfl (fun _ _ _ h => h) (by rfl) ?_ ?_ ?_ ?_
                 rotate_left
                 ·
                  intro w'
                  go_simp
                  with_reducible rfl
                 rotate_left
                 ·
                  simp only [Act.put, sa_, s0_, s1_, i64_w, i32_w]
                  rfl
                 refine pA_ 18 121 ?_ (b_ 30 524287) (any_of HT_.out (by kernel_rfl)) rfl rfl (fun _ _ _ h => h) (by rfl) ?_ ?_ ?_ ?_
                 rotate_left
                 ·
                  intro w'
                  go_simp
                  with_reducible rfl
                 rotate_left
                 ·
                  simp only [Act.put, sa_, s0_, s1_, i64_w, i32_w]
                  rfl
                 refine pA_ 19 122 ?_ (b_ 30 1048575) (any_of HT_.out (by kernel_rfl)) rfl rfl (fun _ _ _ h => h) (by rfl) ?_ ?_ ?_ ?_
                 rotate_left
                 ·
                  intro w'
                  go_simp
                  with_reducible rfl
                 rotate_left
                 ·
                  simp only [Act.put, sa_, s0_, s1_, i64_w, i32_w]
                  rfl
                 refine pA_ 20 123 ?_ (b_ 30 2097151) (any_of HT_.out (by kernel_rfl)) rfl rfl (fun _ _ _ h => h) (by rfl) ?_ ?_ ?_ ?_
                 rotate_left
                 ·
                  intro w'
                  go_simp
                  with_reducible rfl
                 rotate_left
                 ·
                  simp only [Act.put, sa_, s0_, s1_, i64_w, i32_w]
                  rfl
                 refine pA_ 22 125 ?_ (b_ 30 6291455) (any_of HT_.out (by kernel_rfl)) rfl rfl (fun _ _ _ h => h) (by rfl) ?_ ?_ ?_ ?_
                 rotate_left
                 ·
                  intro w'
                  go_simp
                  with_reducible rfl
                 rotate_left
                 ·
                  simp only [Act.put, sa_, s0_, s1_, i64_w, i32_w]
                  rfl
                 refine pA_ 23 126 ?_ (b_ 30 14680063) (any_of HT_.out (by kernel_rfl)) rfl rfl (fun _ _ _ h => h) (by rfl) ?_ ?_ ?_ ?_
                 rotate_left
                 ·
                  intro w'
                  go_simp
                  with_reducible rfl
                 rotate_left
                 ·
                  simp only [Act.put, sa_, s0_, s1_, i64_w, i32_w]
                  rfl
                 refine pA_ 24 127 ?_ (b_ 30 31457279) (any_of HT_.out (by kernel_rfl)) rfl rfl (fun _ _ _ h => h) (by rfl) ?_ ?_ ?_ ?_
                 rotate_left
                 ·
                  intro w'
                  go_simp
                  with_reducible rfl
                 rotate_left
                 ·
                  simp only [Act.put, sa_, s0_, s1_, i64_w, i32_w]
                  rfl
                 refine pA_ 27 130 ?_ (b_ 30 165675007) (any_of HT_.out (by kernel_rfl)) rfl rfl (fun _ _ _ h => h) (by rfl) ?_ ?_ ?_ ?_
                 rotate_left
                 ·
                  intro w'
                  go_simp
                  with_reducible rfl
                 rotate_left
                 ·
                  simp only [Act.put, sa_, s0_, s1_, i64_w, i32_w]
                  rfl
                 refine tA_ 21 124 ?_ (b_ 30 167772159) (take_ofW HT_.out HW_.out (by kernel_rfl)) rfl rfl (fun _ _ _ h => h) (by rfl) ?_ hHeld ?_ ?_ ?_
                 rotate_left
                 ·
                  rintro w' ⟨s0, s1, s2, s3, s4, s5, s6, s7, s8, s9, s10, s11, s12, s13, s14, s15, s16, s17, s18⟩
                  go_simp
                  with_reducible rfl
                 rotate_left
                 ·
                  simp only [Act.put, sa_, s0_, s1_, i64_w, i32_w]
                  rfl
                 refine tA_ 25 128 ?_ (b_ 30 201326591) (take_ofW HT_.out HW_.out (by kernel_rfl)) rfl rfl (fun _ _ _ h => h) (by rfl) ?_ hHeld ?_ ?_ ?_
                 rotate_left
                 ·
                  rintro w' ⟨s0, s1, s2, s3, s4, s5, s6, s7, s8, s9, s10, s11, s12, s13, s14, s15, s16, s17, s18⟩
                  go_simp
                  with_reducible rfl
                 rotate_left
                 ·
                  simp only [Act.put, sa_, s0_, s1_, i64_w, i32_w]
                  rfl
                 refine one_ (i := 26) (N := some 129) (b_ 30 268435455) rfl rfl (one_of HT_.out (by kernel_rfl)) (by decide) (fun K hK => ?_)
                 refine goes_ Try.func12 (by kernel_rfl) rfl #[.agg #[.slice (some ad238) l0_0.length c0_0, .int .i64 a0_1, .int .i64 a0_2, .string a0_3], .agg #[.string ((rd_T32 t234 x16_3).f0), .int .i64 ((rd_T32 t234 x16_3).f1), .int .i64 ((rd_T32 t234 x16_3).f2), .string ((rd_T32 t234 x16_3).f3), .string ((rd_T32 t234 x16_3).f4)]] (by rfl) rfl rfl (by (try simp only [List.map_toArray, List.map_cons, List.map_nil]); first | done | rfl | (simp only [List.length_drop, List.length_take]; rfl)) ?_
                 with_reducible refine (millhandlaw16_at.calls k3 _ _ l0_0 a0_1 a0_2 a0_3 ((rd_T32 t234 x16_3).f0) ((rd_T32 t234 x16_3).f1) ((rd_T32 t234 x16_3).f2) ((rd_T32 t234 x16_3).f3) ((rd_T32 t234 x16_3).f4) t248 _ ?side1 ?side2 A84.out).mono ?_
                 (case side1 => repeat (first | exact (Kd.C_below HR0_0.out HB.out) | (with_reducible refine Kd.C_alloc ?_ _) | (with_reducible refine Kd.C_drewN ?_ _) | (with_reducible refine Kd.C_drew ?_)))
                 (case side2 => exact HC0_0.out)
                 rintro e w91 ⟨rfl, hb⟩
                 have HS4_ := (hb.cell (World.block_lt_of_cell? _ _ (hHeld.2.2.2.2.1))).trans (hHeld.2.2.2.2.1)
                 have HS5_ := (hb.cell (World.block_lt_of_cell? _ _ (hHeld.2.2.2.2.2.1))).trans (hHeld.2.2.2.2.2.1)
                 have HS6_ := (hb.cell (World.block_lt_of_cell? _ _ (hHeld.2.2.2.2.2.2.1))).trans (hHeld.2.2.2.2.2.2.1)
                 have HS7_ := (hb.cell (World.block_lt_of_cell? _ _ (hHeld.2.2.2.2.2.2.2.1))).trans (hHeld.2.2.2.2.2.2.2.1)
                 have HS8_ := (hb.cell (World.block_lt_of_cell? _ _ (hHeld.2.2.2.2.2.2.2.2.1))).trans (hHeld.2.2.2.2.2.2.2.2.1)
                 have HS9_ := (hb.cell (World.block_lt_of_cell? _ _ (hHeld.2.2.2.2.2.2.2.2.2.1))).trans (hHeld.2.2.2.2.2.2.2.2.2.1)
                 have HS10_ := (hb.cell (World.block_lt_of_cell? _ _ (hHeld.2.2.2.2.2.2.2.2.2.2.1))).trans (hHeld.2.2.2.2.2.2.2.2.2.2.1)
                 have HS11_ := (hb.cell (World.block_lt_of_cell? _ _ (hHeld.2.2.2.2.2.2.2.2.2.2.2.1))).trans (hHeld.2.2.2.2.2.2.2.2.2.2.2.1)
                 have HS12_ := (hb.cell (World.block_lt_of_cell? _ _ (hHeld.2.2.2.2.2.2.2.2.2.2.2.2.1))).trans (hHeld.2.2.2.2.2.2.2.2.2.2.2.2.1)
                 have HS13_ := (hb.cell (World.block_lt_of_cell? _ _ (hHeld.2.2.2.2.2.2.2.2.2.2.2.2.2.1))).trans (hHeld.2.2.2.2.2.2.2.2.2.2.2.2.2.1)
                 have HS14_ := (hb.cell (World.block_lt_of_cell? _ _ (hHeld.2.2.2.2.2.2.2.2.2.2.2.2.2.2.1))).trans (hHeld.2.2.2.2.2.2.2.2.2.2.2.2.2.2.1)
                 have HS15_ := (hb.cell (World.block_lt_of_cell? _ _ (hHeld.2.2.2.2.2.2.2.2.2.2.2.2.2.2.2.1))).trans (hHeld.2.2.2.2.2.2.2.2.2.2.2.2.2.2.2.1)
                 have HS16_ := (hb.cell (World.block_lt_of_cell? _ _ (hHeld.2.2.2.2.2.2.2.2.2.2.2.2.2.2.2.2.1))).trans (hHeld.2.2.2.2.2.2.2.2.2.2.2.2.2.2.2.2.1)
                 have HS17_ := (hb.cell (World.block_lt_of_cell? _ _ (hHeld.2.2.2.2.2.2.2.2.2.2.2.2.2.2.2.2.2.1))).trans (hHeld.2.2.2.2.2.2.2.2.2.2.2.2.2.2.2.2.2.1)
                 have HS18_ := (hb.cell (World.block_lt_of_cell? _ _ (hHeld.2.2.2.2.2.2.2.2.2.2.2.2.2.2.2.2.2.2))).trans (hHeld.2.2.2.2.2.2.2.2.2.2.2.2.2.2.2.2.2.2)
                 refine ⟨_, rfl, ?_⟩
                 have n0_ := Aside0.mk (Kd.R_below (by (with_reducible repeat (first | apply Kd.R_alloc | apply Kd.R_drewN | apply Kd.R_drew)); exact HO_12.out) hb)
                 have n1_ := Aside0.mk (blk_below (g := gb231) (o := .cells #[.slice (some ad238) l0_0.length c0_0, .int .i64 a0_1, .int .i64 a0_2, .string a0_3] 24 (0, 0)) (by (with_reducible repeat (first | refine blk_drewN ?_ _ | refine blk_drew ?_ | refine blk_alloc ?_ _)); exact BK231.out) hb)
                 have n2_ := Aside0.mk (below_step (by repeat (first | (with_reducible first | exact HB.out | apply below_alloc | apply pw_below_drewN | apply below_drew1 | refine below_set ?_ GE231.out) | exact HB.out)) hb)
                 clear HO_12
                 clear BK231
                 clear HB
                 have HO_12 := n0_
                 have BK231 := n1_
                 have HB := n2_
                 clear n0_ n1_ n2_
                 (try clear hb)
                 (try clear hb2)
                 (try clear hk)
                 (try clear hi)
                 refine hK.out _ _ ⟨(blk_cell BK231.out 0).trans rfl, (blk_cell BK231.out 1).trans rfl, (blk_cell BK231.out 2).trans rfl, (blk_cell BK231.out 3).trans rfl, HS4_, HS5_, HS6_, HS7_, HS8_, HS9_, HS10_, HS11_, HS12_, HS13_, HS14_, HS15_, HS16_, HS17_, HS18_⟩ (fun hHeld => ?_)
                 clear hK K
                 refine norm_ (a' := ?_) ?_ ?_
                 rotate_left
                 ·
                  show Act.put _ (some 129) _ = _
                  simp only [Act.put, sa_, s0_, s1_, i64_w, i32_w]
                  rfl
                 refine pA_ 28 131 ?_ (b_ 30 536870911) (any_of HT_.out (by kernel_rfl)) rfl rfl (fun _ _ _ h => h) (by rfl) ?_ ?_ ?_ ?_
                 rotate_left
                 ·
                  intro w'
                  go_simp
                  with_reducible rfl
                 rotate_left
                 ·
                  simp only [Act.put, sa_, s0_, s1_, i64_w, i32_w]
                  rfl
                 refine pA_ 29 132 ?_ (b_ 30 1073741823) (any_of HT_.out (by kernel_rfl)) rfl rfl (fun _ _ _ h => h) (by rfl) ?_ ?_ ?_ ?_
                 rotate_left
                 ·
                  intro w'
                  go_simp
                  with_reducible rfl
                 rotate_left
                 ·
                  simp only [Act.put, sa_, s0_, s1_, i64_w, i32_w]
                  rfl
                 refine done_ (done_of HT_.out (by kernel_rfl)) ?_
                 try go_wp2
                 go_ret
                 exact ⟨by first | rfl | (simp [errW_none, errW_some] <;> rfl) | (simp [*, errW_none, errW_some] <;> rfl) | exact ret_ie _ | (simp [*, errW_none, errW_some, bne]; done), by repeat (first | (with_reducible first | exact HB.out | apply below_alloc | apply pw_below_drewN | apply below_drew1 | refine below_set ?_ GE231.out) | exact HB.out)⟩
              ·
               rw [if_neg c80] at H
               exact absurd H (by simp)
            ·
             rw [if_neg c69] at H
             have c69b0 : decide (x16_3 < (t234.length : Int)) = false := decide_eq_false c69
             clear c69
             obtain rfl := Option.some.inj H
             obtain ⟨Ao92, co92, eo92⟩ := Kd.R_slice HO_12.out
             subst eo92
             go_wp2
             go_ret
             exact ⟨by first | rfl | (simp [errW_none, errW_some] <;> rfl) | (simp [*, errW_none, errW_some] <;> rfl) | exact ret_ie _ | (simp [*, errW_none, errW_some, bne]; done), by repeat (first | (with_reducible first | exact HB.out | apply below_alloc | apply pw_below_drewN | apply below_drew1 | refine below_set ?_ GE231.out) | exact HB.out)⟩
        ·
         rw [if_neg c31] at H
         exact absurd H (by simp)
       ·
        rw [if_neg c30] at H
        exact absurd H (by simp)
    ·
     rw [if_neg c27] at H
     have c27b0 : (t237 == 0) = false := beq_eq_false_iff_ne.mpr c27
     have c27b1 : (t237 != 0) = true := bne_iff_ne.mpr c27
     obtain rfl := Option.some.inj H
     have hcz93_0 : wc.cell? ⟨gb231, 0, none⟩ = some (.slice A0_0 l0_0.length c0_0) := (blk_cell BK231.out 0).trans rfl
     have hcz93_1 : wc.cell? ⟨gb231, 1, none⟩ = some (.int .i64 a0_1) := (blk_cell BK231.out 1).trans rfl
     have hcz93_2 : wc.cell? ⟨gb231, 2, none⟩ = some (.int .i64 a0_2) := (blk_cell BK231.out 2).trans rfl
     have hcz93_3 : wc.cell? ⟨gb231, 3, none⟩ = some (.string a0_3) := (blk_cell BK231.out 3).trans rfl
     have hfz93_0 := blk_frozen BK231.out 0
     have hfz93_1 := blk_frozen BK231.out 1
     have hfz93_2 := blk_frozen BK231.out 2
     have hfz93_3 := blk_frozen BK231.out 3
     go_wp2_with (first | ((with_reducible refine gate_callee (f := 10) rfl ?_); refine goesL_ (some 45) rfl rfl Try.func10 (by kernel_rfl) rfl #[.agg #[.slice A0_0 l0_0.length c0_0, .int .i64 a0_1, .int .i64 a0_2, .string a0_3], .int .i64 a1, .string a2, .string a3] rfl (by (try simp only [List.map_toArray, List.map_cons, List.map_nil]); first | done | rfl | (simp only [List.length_drop, List.length_take]; rfl)) ?_; (with_reducible refine (version_Overlap.calls kj6 _ _ l0_0 a0_1 a0_2 a0_3 a1 a2 a3 t234 t237 _ ?side1 ?side2 A26.out).mono ?_); (case side1 => repeat (first | exact (Kd.C_below HR0_0.out HB.out) | (with_reducible refine Kd.C_alloc ?_ _) | (with_reducible refine Kd.C_drewN ?_ _) | (with_reducible refine Kd.C_drew ?_))); (case side2 => exact HC0_0.out); rintro e w94 ⟨v235, rfl, ho0, hb⟩; refine ⟨_, rfl, ?_⟩; have n0_ := Aside0.mk (Kd.R_lower ho0 (below_size (by repeat (first | (with_reducible first | exact HB.out | apply below_alloc | apply pw_below_drewN | apply below_drew1 | refine below_set ?_ GE231.out) | exact HB.out)))); have n1_ := Aside0.mk (blk_below (g := gb231) (o := .cells #[.slice A0_0 l0_0.length c0_0, .int .i64 a0_1, .int .i64 a0_2, .string a0_3] 24 (0, 0)) (by (with_reducible repeat (first | refine blk_drewN ?_ _ | refine blk_drew ?_ | refine blk_alloc ?_ _)); exact BK231.out) hb); have n2_ := Aside0.mk (below_step (by repeat (first | (with_reducible first | exact HB.out | apply below_alloc | apply pw_below_drewN | apply below_drew1 | refine below_set ?_ GE231.out) | exact HB.out)) hb); clear BK231; clear HB; have HO236 := n0_; have BK231 := n1_; have HB := n2_; clear n0_ n1_ n2_; (try clear hb); (try clear hb2); (try clear hk); (try clear hi); (try clear ho0); obtain ⟨Ao95, co95, eo95⟩ := Kd.R_slice HO236.out; subst eo95))
     go_ret
     exact ⟨by first | rfl | (simp [errW_none, errW_some] <;> rfl) | (simp [*, errW_none, errW_some] <;> rfl) | exact ret_ie _ | (simp [*, errW_none, errW_some, bne]; done), by repeat (first | (with_reducible first | exact HB.out | apply below_alloc | apply pw_below_drewN | apply below_drew1 | refine below_set ?_ GE231.out) | exact HB.out)⟩

end Go.Proofs.Ytdlghckcbbjipaa.R

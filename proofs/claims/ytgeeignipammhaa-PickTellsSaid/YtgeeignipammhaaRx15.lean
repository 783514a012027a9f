/- Contracts of Go functions and what they come to, over the translation of this seat: made by a program of this session (print2.py). -/
import Derived.Test.YtgeeignipammhaaRx0
import Derived.Test.YtgeeignipammhaaRx5
import Derived.Test.YtgeeignipammhaaRx6
import Derived.Test.YtgeeignipammhaaRx7
import Derived.Test.YtgeeignipammhaaRx8
import Derived.Test.YtgeeignipammhaaRx11
import Derived.Test.YtgeeignipammhaaRx12
import Derived.Test.YtgeeignipammhaaRx13
import Derived.Test.YtgeeignipammhaaRx14
namespace Go.Proofs.Ytgeeignipammhaa.R
open Go.RowKit Go.Proofs.Ytgeeignipammhaa.Co Go.Proofs.Ytgeeignipammhaa.Ret Go.Proofs.Ytgeeignipammhaa.Plain Go.Proofs.YtgeeignipammhaaW.PrintWords Go.Proofs.YtgeeignipammhaaW.PrintLast Go.Proofs.YtgeeignipammhaaW.PrintMore
attribute [local go_sem] max2_int min2_int max_two min_two max_three min_three max_four min_four   -- for this text's walks alone
set_option linter.unusedVariables false
set_option linter.unusedSimpArgs false

/-! ### millhandlaw18_PickTells: function 4 -/
mutual
def millhandlaw18_PickTells.j0 : Nat → Bool → List (List (S28)) → Int → Int → ByteArray → List (List (S28)) → Int → Int → ByteArray → Int → List (S28) → List (S28) → Option (Bool)
 | 0, _, _, _, _, _, _, _, _, _, _, _, _ => none
 | k + 1, x18, x255000, x255001, x255002, x255003, x263000, x263001, x263002, x263003, x280000, x280001, x280002 => millhandlaw18_PickTells.l0 k x18 0 x255000 x255001 x255002 x255003 x263000 x263001 x263002 x263003 x280000 x280001 x280002
def millhandlaw18_PickTells.l0 : Nat → Bool → Int → List (List (S28)) → Int → Int → ByteArray → List (List (S28)) → Int → Int → ByteArray → Int → List (S28) → List (S28) → Option (Bool)
 | 0, _, _, _, _, _, _, _, _, _, _, _, _, _ => none
 | k + 1, x18, x19, x255000, x255001, x255002, x255003, x263000, x263001, x263002, x263003, x280000, x280001, x280002 => if x19 < (x280001.length : Int) then (if 0 ≤ x19 then (millhandlaw18_PickTells.l0 k x18 (wrap64 (x19 + 1)) x255000 x255001 x255002 x255003 x263000 x263001 x263002 x263003 x280000 (x280001.set (x19 : Int).toNat (⟨(⟨#[119, 114, 105, 116, 116, 101, 110, 32, 111, 118, 101, 114]⟩ : ByteArray), (rd_T28 x280001 x19).f1, (rd_T28 x280001 x19).f2, (rd_T28 x280001 x19).f3, (rd_T28 x280001 x19).f4⟩ : S28)) x280002) else (none)) else (millhandlaw18_PickTells.l1 k x18 0 x255000 x255001 x255002 x255003 x263000 x263001 x263002 x263003 x280000 x280001 x280002)
def millhandlaw18_PickTells.l1 : Nat → Bool → Int → List (List (S28)) → Int → Int → ByteArray → List (List (S28)) → Int → Int → ByteArray → Int → List (S28) → List (S28) → Option (Bool)
 | 0, _, _, _, _, _, _, _, _, _, _, _, _, _ => none
 | k + 1, x18, x20, x255000, x255001, x255002, x255003, x263000, x263001, x263002, x263003, x280000, x280001, x280002 => if x20 < (x280002.length : Int) then (if 0 ≤ x20 then (millhandlaw18_PickTells.l1 k x18 (wrap64 (x20 + 1)) x255000 x255001 x255002 x255003 x263000 x263001 x263002 x263003 x280000 x280001 (x280002.set (x20 : Int).toNat (⟨(⟨#[119, 114, 105, 116, 116, 101, 110, 32, 111, 118, 101, 114]⟩ : ByteArray), (rd_T28 x280002 x20).f1, (rd_T28 x280002 x20).f2, (rd_T28 x280002 x20).f3, (rd_T28 x280002 x20).f4⟩ : S28))) else (none)) else (if x18 = true then ((millhandref16_Same.f k x263000 x263001 x263002 x263003 x255000 x255001 x255002 x255003).bind fun t292 => (some t292)) else (some false))
end
def millhandlaw18_PickTells.f (k : Nat) (l0_0 : List (List (S28))) (a0_1 : Int) (a0_2 : Int) (a0_3 : ByteArray) (a1 : Int) : Option (Bool) := (millhandref16_Great.f k l0_0 a0_1 a0_2 a0_3).bind fun t255 => (if t255 = true then (some true) else ((millhandref16_Twin.f k l0_0 a0_1 a0_2 a0_3).bind fun bt256 => ((pick_Score.f k bt256.1 bt256.2.1 bt256.2.2.1 bt256.2.2.2 a1).bind fun bt263 => ((millhandref18_Score.f k l0_0 a0_1 a0_2 a0_3 a1).bind fun bt265 => ((pick_Need.f k bt256.1 bt256.2.1 bt256.2.2.1 bt256.2.2.2).bind fun bt267 => ((millhandref18_Need.f k l0_0 a0_1 a0_2 a0_3).bind fun bt269 => ((pick_Pick.f k bt256.1 bt256.2.1 bt256.2.2.1 bt256.2.2.2).bind fun bt271 => ((millhandref18_Pick.f k l0_0 a0_1 a0_2 a0_3).bind fun bt280 => (if bt263.1 = bt265.1 then (if bt263.2 = bt265.2 then (if (bt267.1 == bt269.1) = true then (if bt267.2 = bt269.2 then ((millhandref18_Same.f k bt271.1 bt271.2.1 bt271.2.2.1 bt280.1 bt280.2.1 bt280.2.2.1).bind fun t289 => (if t289 = true then (millhandlaw18_PickTells.j0 k (bt271.2.2.2 == bt280.2.2.2) l0_0 a0_1 a0_2 a0_3 bt256.1 bt256.2.1 bt256.2.2.1 bt256.2.2.2 bt271.1 bt271.2.1 bt271.2.2.1) else (millhandlaw18_PickTells.j0 k false l0_0 a0_1 a0_2 a0_3 bt256.1 bt256.2.1 bt256.2.2.1 bt256.2.2.2 bt271.1 bt271.2.1 bt271.2.2.1))) else (millhandlaw18_PickTells.j0 k false l0_0 a0_1 a0_2 a0_3 bt256.1 bt256.2.1 bt256.2.2.1 bt256.2.2.2 bt271.1 bt271.2.1 bt271.2.2.1)) else (millhandlaw18_PickTells.j0 k false l0_0 a0_1 a0_2 a0_3 bt256.1 bt256.2.1 bt256.2.2.1 bt256.2.2.2 bt271.1 bt271.2.1 bt271.2.2.1)) else (millhandlaw18_PickTells.j0 k false l0_0 a0_1 a0_2 a0_3 bt256.1 bt256.2.1 bt256.2.2.1 bt256.2.2.2 bt271.1 bt271.2.1 bt271.2.2.1)) else (millhandlaw18_PickTells.j0 k false l0_0 a0_1 a0_2 a0_3 bt256.1 bt256.2.1 bt256.2.2.1 bt256.2.2.2 bt271.1 bt271.2.1 bt271.2.2.1))))))))))
set_option maxHeartbeats 8000000 in
set_option maxRecDepth 100000 in
theorem millhandlaw18_PickTells.calls (k : Nat) (A0_0 : Option Addr) (c0_0 : Nat) (l0_0 : List (List (S28))) (a0_1 : Int) (a0_2 : Int) (a0_3 : ByteArray) (a1 : Int) (r : Bool) (w : World) (hr0_0 : Kd.C (Kd.slice 28 k28) w A0_0 l0_0.length l0_0) (hc0_0 : l0_0.length ≤ c0_0) (h : millhandlaw18_PickTells.f k l0_0 a0_1 a0_2 a0_3 a1 = some r) :
  Calls Try.prog 4 #[.agg #[.slice A0_0 l0_0.length c0_0, .int .i64 a0_1, .int .i64 a0_2, .string a0_3], .int .i64 a1] w fun e w' => e = .returned (.bool r) ∧ Below w.heap.size w w' := by
 have hu24 := Try.underlying24
 have hu31 := Try.underlying31
 have HR0_0 := Aside0.mk hr0_0
 have HC0_0 := Aside0.mk hc0_0
 clear hr0_0 hc0_0
 have HB := Aside0.mk (Below.refl w.heap.size w)
 have H : ((millhandref16_Great.f k l0_0 a0_1 a0_2 a0_3).bind fun t255 => (if t255 = true then (some true) else ((millhandref16_Twin.f k l0_0 a0_1 a0_2 a0_3).bind fun bt256 => ((pick_Score.f k bt256.1 bt256.2.1 bt256.2.2.1 bt256.2.2.2 a1).bind fun bt263 => ((millhandref18_Score.f k l0_0 a0_1 a0_2 a0_3 a1).bind fun bt265 => ((pick_Need.f k bt256.1 bt256.2.1 bt256.2.2.1 bt256.2.2.2).bind fun bt267 => ((millhandref18_Need.f k l0_0 a0_1 a0_2 a0_3).bind fun bt269 => ((pick_Pick.f k bt256.1 bt256.2.1 bt256.2.2.1 bt256.2.2.2).bind fun bt271 => ((millhandref18_Pick.f k l0_0 a0_1 a0_2 a0_3).bind fun bt280 => (if bt263.1 = bt265.1 then (if bt263.2 = bt265.2 then (if (bt267.1 == bt269.1) = true then (if bt267.2 = bt269.2 then ((millhandref18_Same.f k bt271.1 bt271.2.1 bt271.2.2.1 bt280.1 bt280.2.1 bt280.2.2.1).bind fun t289 => (if t289 = true then (millhandlaw18_PickTells.j0 k (bt271.2.2.2 == bt280.2.2.2) l0_0 a0_1 a0_2 a0_3 bt256.1 bt256.2.1 bt256.2.2.1 bt256.2.2.2 bt271.1 bt271.2.1 bt271.2.2.1) else (millhandlaw18_PickTells.j0 k false l0_0 a0_1 a0_2 a0_3 bt256.1 bt256.2.1 bt256.2.2.1 bt256.2.2.2 bt271.1 bt271.2.1 bt271.2.2.1))) else (millhandlaw18_PickTells.j0 k false l0_0 a0_1 a0_2 a0_3 bt256.1 bt256.2.1 bt256.2.2.1 bt256.2.2.2 bt271.1 bt271.2.1 bt271.2.2.1)) else (millhandlaw18_PickTells.j0 k false l0_0 a0_1 a0_2 a0_3 bt256.1 bt256.2.1 bt256.2.2.1 bt256.2.2.2 bt271.1 bt271.2.1 bt271.2.2.1)) else (millhandlaw18_PickTells.j0 k false l0_0 a0_1 a0_2 a0_3 bt256.1 bt256.2.1 bt256.2.2.1 bt256.2.2.2 bt271.1 bt271.2.1 bt271.2.2.1)) else (millhandlaw18_PickTells.j0 k false l0_0 a0_1 a0_2 a0_3 bt256.1 bt256.2.1 bt256.2.2.1 bt256.2.2.2 bt271.1 bt271.2.1 bt271.2.2.1))))))))))) = some r := h
 clear h
 replace H := Option.bind_eq_some_iff.mp H
 obtain ⟨t255, A30, H⟩ := H
 try dsimp only at H
 have A3 := Aside0.mk A30
 clear A30
 by_cases c4 : t255 = true
 ·
  subst c4
  have H1 : (some true) = some r := by rw [if_pos rfl] at H; exact H
  clear H
  have H := H1
  clear H1
  obtain rfl := Option.some.inj H
  go_enter Try.func4, Try.ntmps4
  go_wp2_with (first | ((with_reducible refine gate_dst (N := 2) rfl ?_); refine box_event ?hg (N := 2) ?hd (cs := #[.slice A0_0 l0_0.length c0_0, .int .i64 a0_1, .int .i64 a0_2, .string a0_3]) (t := 24) ?hr ?_; (case hd => rfl); (case hg => rfl); (case hr => first | (go_simp; done) | (go_simp; rfl)); intro gb254 hg w5 hbox hb; have n0_ := Aside0.mk (below_step (by repeat (first | (with_reducible first | exact HB.out | apply below_alloc | apply pw_below_drewN | apply below_drew1) | exact HB.out)) hb); have n1_ := Aside0.mk (hbox); have n2_ := Aside0.mk ((by rw [hg]; exact (below_size (by repeat (first | (with_reducible first | exact HB.out | apply below_alloc | apply pw_below_drewN | apply below_drew1) | exact HB.out))) : w.heap.size ≤ gb254)); have n3_ := Aside0.mk ((by rw [hg]; exact (below_size (by repeat (first | (with_reducible first | exact HB.out | apply below_alloc | apply pw_below_drewN | apply below_drew1) | exact HB.out))) : w.heap.size ≤ gb254)); clear HB; have HB := n0_; have BK254 := n1_; have GW254 := n2_; have GE254 := n3_; clear n0_ n1_ n2_ n3_; clear hb hbox hg; have hcz6_0 : w5.cell? ⟨gb254, 0, none⟩ = some (.slice A0_0 l0_0.length c0_0) := (blk_cell BK254.out 0).trans rfl; have hcz6_1 : w5.cell? ⟨gb254, 1, none⟩ = some (.int .i64 a0_1) := (blk_cell BK254.out 1).trans rfl; have hcz6_2 : w5.cell? ⟨gb254, 2, none⟩ = some (.int .i64 a0_2) := (blk_cell BK254.out 2).trans rfl; have hcz6_3 : w5.cell? ⟨gb254, 3, none⟩ = some (.string a0_3) := (blk_cell BK254.out 3).trans rfl; have hfz6_0 := blk_frozen BK254.out 0; have hfz6_1 := blk_frozen BK254.out 1; have hfz6_2 := blk_frozen BK254.out 2; have hfz6_3 := blk_frozen BK254.out 3) | ((with_reducible refine gate_callee (f := 12) rfl ?_); refine goesL_ (some 22) rfl rfl Try.func12 (by kernel_rfl) rfl #[.agg #[.slice A0_0 l0_0.length c0_0, .int .i64 a0_1, .int .i64 a0_2, .string a0_3]] rfl (by (try simp only [List.map_toArray, List.map_cons, List.map_nil]); first | done | rfl | (simp only [List.length_drop, List.length_take]; rfl)) ?_; (with_reducible refine (millhandref16_Great.calls k _ _ l0_0 a0_1 a0_2 a0_3 true _ ?side1 ?side2 A3.out).mono ?_); (case side1 => repeat (first | exact (Kd.C_below HR0_0.out HB.out) | (with_reducible refine Kd.C_alloc ?_ _) | (with_reducible refine Kd.C_drewN ?_ _) | (with_reducible refine Kd.C_drew ?_))); (case side2 => exact HC0_0.out); rintro e w7 ⟨rfl, hb⟩; refine ⟨_, rfl, ?_⟩; have n0_ := Aside0.mk (blk_below (g := gb254) (o := .cells #[.slice A0_0 l0_0.length c0_0, .int .i64 a0_1, .int .i64 a0_2, .string a0_3] 24 (0, 0)) (by (with_reducible repeat (first | refine blk_drewN ?_ _ | refine blk_drew ?_ | refine blk_alloc ?_ _)); exact BK254.out) hb); have n1_ := Aside0.mk (below_step (by repeat (first | (with_reducible first | exact HB.out | apply below_alloc | apply pw_below_drewN | apply below_drew1 | refine below_set ?_ GE254.out) | exact HB.out)) hb); clear BK254; clear HB; have BK254 := n0_; have HB := n1_; clear n0_ n1_; (try clear hb); (try clear hb2); (try clear hk); (try clear hi)))
  go_ret
  exact ⟨by first | rfl | (simp [errW_none, errW_some] <;> rfl) | (simp [*, errW_none, errW_some] <;> rfl) | exact ret_ie _ | (simp [*, errW_none, errW_some, bne]; done), by repeat (first | (with_reducible first | exact HB.out | apply below_alloc | apply pw_below_drewN | apply below_drew1 | refine below_set ?_ GE254.out) | exact HB.out)⟩
 ·
  replace c4 := Bool.eq_false_iff.mpr c4
  subst c4
  have H1 : ((millhandref16_Twin.f k l0_0 a0_1 a0_2 a0_3).bind fun bt256 => ((pick_Score.f k bt256.1 bt256.2.1 bt256.2.2.1 bt256.2.2.2 a1).bind fun bt263 => ((millhandref18_Score.f k l0_0 a0_1 a0_2 a0_3 a1).bind fun bt265 => ((pick_Need.f k bt256.1 bt256.2.1 bt256.2.2.1 bt256.2.2.2).bind fun bt267 => ((millhandref18_Need.f k l0_0 a0_1 a0_2 a0_3).bind fun bt269 => ((pick_Pick.f k bt256.1 bt256.2.1 bt256.2.2.1 bt256.2.2.2).bind fun bt271 => ((millhandref18_Pick.f k l0_0 a0_1 a0_2 a0_3).bind fun bt280 => (if bt263.1 = bt265.1 then (if bt263.2 = bt265.2 then (if (bt267.1 == bt269.1) = true then (if bt267.2 = bt269.2 then ((millhandref18_Same.f k bt271.1 bt271.2.1 bt271.2.2.1 bt280.1 bt280.2.1 bt280.2.2.1).bind fun t289 => (if t289 = true then (millhandlaw18_PickTells.j0 k (bt271.2.2.2 == bt280.2.2.2) l0_0 a0_1 a0_2 a0_3 bt256.1 bt256.2.1 bt256.2.2.1 bt256.2.2.2 bt271.1 bt271.2.1 bt271.2.2.1) else (millhandlaw18_PickTells.j0 k false l0_0 a0_1 a0_2 a0_3 bt256.1 bt256.2.1 bt256.2.2.1 bt256.2.2.2 bt271.1 bt271.2.1 bt271.2.2.1))) else (millhandlaw18_PickTells.j0 k false l0_0 a0_1 a0_2 a0_3 bt256.1 bt256.2.1 bt256.2.2.1 bt256.2.2.2 bt271.1 bt271.2.1 bt271.2.2.1)) else (millhandlaw18_PickTells.j0 k false l0_0 a0_1 a0_2 a0_3 bt256.1 bt256.2.1 bt256.2.2.1 bt256.2.2.2 bt271.1 bt271.2.1 bt271.2.2.1)) else (millhandlaw18_PickTells.j0 k false l0_0 a0_1 a0_2 a0_3 bt256.1 bt256.2.1 bt256.2.2.1 bt256.2.2.2 bt271.1 bt271.2.1 bt271.2.2.1)) else (millhandlaw18_PickTells.j0 k false l0_0 a0_1 a0_2 a0_3 bt256.1 bt256.2.1 bt256.2.2.1 bt256.2.2.2 bt271.1 bt271.2.1 bt271.2.2.1))))))))) = some r := by rw [if_neg (show ¬ (false = true) by decide)] at H; exact H
  clear H
  have H := H1
  clear H1
  replace H := Option.bind_eq_some_iff.mp H
  obtain ⟨⟨t256, t259, t260, t261⟩, A80, H⟩ := H
  replace H : ((pick_Score.f k t256 t259 t260 t261 a1).bind fun bt263 => ((millhandref18_Score.f k l0_0 a0_1 a0_2 a0_3 a1).bind fun bt265 => ((pick_Need.f k t256 t259 t260 t261).bind fun bt267 => ((millhandref18_Need.f k l0_0 a0_1 a0_2 a0_3).bind fun bt269 => ((pick_Pick.f k t256 t259 t260 t261).bind fun bt271 => ((millhandref18_Pick.f k l0_0 a0_1 a0_2 a0_3).bind fun bt280 => (if bt263.1 = bt265.1 then (if bt263.2 = bt265.2 then (if (bt267.1 == bt269.1) = true then (if bt267.2 = bt269.2 then ((millhandref18_Same.f k bt271.1 bt271.2.1 bt271.2.2.1 bt280.1 bt280.2.1 bt280.2.2.1).bind fun t289 => (if t289 = true then (millhandlaw18_PickTells.j0 k (bt271.2.2.2 == bt280.2.2.2) l0_0 a0_1 a0_2 a0_3 t256 t259 t260 t261 bt271.1 bt271.2.1 bt271.2.2.1) else (millhandlaw18_PickTells.j0 k false l0_0 a0_1 a0_2 a0_3 t256 t259 t260 t261 bt271.1 bt271.2.1 bt271.2.2.1))) else (millhandlaw18_PickTells.j0 k false l0_0 a0_1 a0_2 a0_3 t256 t259 t260 t261 bt271.1 bt271.2.1 bt271.2.2.1)) else (millhandlaw18_PickTells.j0 k false l0_0 a0_1 a0_2 a0_3 t256 t259 t260 t261 bt271.1 bt271.2.1 bt271.2.2.1)) else (millhandlaw18_PickTells.j0 k false l0_0 a0_1 a0_2 a0_3 t256 t259 t260 t261 bt271.1 bt271.2.1 bt271.2.2.1)) else (millhandlaw18_PickTells.j0 k false l0_0 a0_1 a0_2 a0_3 t256 t259 t260 t261 bt271.1 bt271.2.1 bt271.2.2.1)))))))) = some r := H
  have A8 := Aside0.mk A80
  clear A80
  replace H := Option.bind_eq_some_iff.mp H
  obtain ⟨⟨t263, t264⟩, A90, H⟩ := H
  replace H : ((millhandref18_Score.f k l0_0 a0_1 a0_2 a0_3 a1).bind fun bt265 => ((pick_Need.f k t256 t259 t260 t261).bind fun bt267 => ((millhandref18_Need.f k l0_0 a0_1 a0_2 a0_3).bind fun bt269 => ((pick_Pick.f k t256 t259 t260 t261).bind fun bt271 => ((millhandref18_Pick.f k l0_0 a0_1 a0_2 a0_3).bind fun bt280 => (if t263 = bt265.1 then (if t264 = bt265.2 then (if (bt267.1 == bt269.1) = true then (if bt267.2 = bt269.2 then ((millhandref18_Same.f k bt271.1 bt271.2.1 bt271.2.2.1 bt280.1 bt280.2.1 bt280.2.2.1).bind fun t289 => (if t289 = true then (millhandlaw18_PickTells.j0 k (bt271.2.2.2 == bt280.2.2.2) l0_0 a0_1 a0_2 a0_3 t256 t259 t260 t261 bt271.1 bt271.2.1 bt271.2.2.1) else (millhandlaw18_PickTells.j0 k false l0_0 a0_1 a0_2 a0_3 t256 t259 t260 t261 bt271.1 bt271.2.1 bt271.2.2.1))) else (millhandlaw18_PickTells.j0 k false l0_0 a0_1 a0_2 a0_3 t256 t259 t260 t261 bt271.1 bt271.2.1 bt271.2.2.1)) else (millhandlaw18_PickTells.j0 k false l0_0 a0_1 a0_2 a0_3 t256 t259 t260 t261 bt271.1 bt271.2.1 bt271.2.2.1)) else (millhandlaw18_PickTells.j0 k false l0_0 a0_1 a0_2 a0_3 t256 t259 t260 t261 bt271.1 bt271.2.1 bt271.2.2.1)) else (millhandlaw18_PickTells.j0 k false l0_0 a0_1 a0_2 a0_3 t256 t259 t260 t261 bt271.1 bt271.2.1 bt271.2.2.1))))))) = some r := H
  have A9 := Aside0.mk A90
  clear A90
  replace H := Option.bind_eq_some_iff.mp H
  obtain ⟨⟨t265, t266⟩, A100, H⟩ := H
  replace H : ((pick_Need.f k t256 t259 t260 t261).bind fun bt267 => ((millhandref18_Need.f k l0_0 a0_1 a0_2 a0_3).bind fun bt269 => ((pick_Pick.f k t256 t259 t260 t261).bind fun bt271 => ((millhandref18_Pick.f k l0_0 a0_1 a0_2 a0_3).bind fun bt280 => (if t263 = t265 then (if t264 = t266 then (if (bt267.1 == bt269.1) = true then (if bt267.2 = bt269.2 then ((millhandref18_Same.f k bt271.1 bt271.2.1 bt271.2.2.1 bt280.1 bt280.2.1 bt280.2.2.1).bind fun t289 => (if t289 = true then (millhandlaw18_PickTells.j0 k (bt271.2.2.2 == bt280.2.2.2) l0_0 a0_1 a0_2 a0_3 t256 t259 t260 t261 bt271.1 bt271.2.1 bt271.2.2.1) else (millhandlaw18_PickTells.j0 k false l0_0 a0_1 a0_2 a0_3 t256 t259 t260 t261 bt271.1 bt271.2.1 bt271.2.2.1))) else (millhandlaw18_PickTells.j0 k false l0_0 a0_1 a0_2 a0_3 t256 t259 t260 t261 bt271.1 bt271.2.1 bt271.2.2.1)) else (millhandlaw18_PickTells.j0 k false l0_0 a0_1 a0_2 a0_3 t256 t259 t260 t261 bt271.1 bt271.2.1 bt271.2.2.1)) else (millhandlaw18_PickTells.j0 k false l0_0 a0_1 a0_2 a0_3 t256 t259 t260 t261 bt271.1 bt271.2.1 bt271.2.2.1)) else (millhandlaw18_PickTells.j0 k false l0_0 a0_1 a0_2 a0_3 t256 t259 t260 t261 bt271.1 bt271.2.1 bt271.2.2.1)))))) = some r := H
  have A10 := Aside0.mk A100
  clear A100
  replace H := Option.bind_eq_some_iff.mp H
  obtain ⟨⟨t267, t268⟩, A110, H⟩ := H
  replace H : ((millhandref18_Need.f k l0_0 a0_1 a0_2 a0_3).bind fun bt269 => ((pick_Pick.f k t256 t259 t260 t261).bind fun bt271 => ((millhandref18_Pick.f k l0_0 a0_1 a0_2 a0_3).bind fun bt280 => (if t263 = t265 then (if t264 = t266 then (if (t267 == bt269.1) = true then (if t268 = bt269.2 then ((millhandref18_Same.f k bt271.1 bt271.2.1 bt271.2.2.1 bt280.1 bt280.2.1 bt280.2.2.1).bind fun t289 => (if t289 = true then (millhandlaw18_PickTells.j0 k (bt271.2.2.2 == bt280.2.2.2) l0_0 a0_1 a0_2 a0_3 t256 t259 t260 t261 bt271.1 bt271.2.1 bt271.2.2.1) else (millhandlaw18_PickTells.j0 k false l0_0 a0_1 a0_2 a0_3 t256 t259 t260 t261 bt271.1 bt271.2.1 bt271.2.2.1))) else (millhandlaw18_PickTells.j0 k false l0_0 a0_1 a0_2 a0_3 t256 t259 t260 t261 bt271.1 bt271.2.1 bt271.2.2.1)) else (millhandlaw18_PickTells.j0 k false l0_0 a0_1 a0_2 a0_3 t256 t259 t260 t261 bt271.1 bt271.2.1 bt271.2.2.1)) else (millhandlaw18_PickTells.j0 k false l0_0 a0_1 a0_2 a0_3 t256 t259 t260 t261 bt271.1 bt271.2.1 bt271.2.2.1)) else (millhandlaw18_PickTells.j0 k false l0_0 a0_1 a0_2 a0_3 t256 t259 t260 t261 bt271.1 bt271.2.1 bt271.2.2.1))))) = some r := H
  have A11 := Aside0.mk A110
  clear A110
  replace H := Option.bind_eq_some_iff.mp H
  obtain ⟨⟨t269, t270⟩, A120, H⟩ := H
  replace H : ((pick_Pick.f k t256 t259 t260 t261).bind fun bt271 => ((millhandref18_Pick.f k l0_0 a0_1 a0_2 a0_3).bind fun bt280 => (if t263 = t265 then (if t264 = t266 then (if (t267 == t269) = true then (if t268 = t270 then ((millhandref18_Same.f k bt271.1 bt271.2.1 bt271.2.2.1 bt280.1 bt280.2.1 bt280.2.2.1).bind fun t289 => (if t289 = true then (millhandlaw18_PickTells.j0 k (bt271.2.2.2 == bt280.2.2.2) l0_0 a0_1 a0_2 a0_3 t256 t259 t260 t261 bt271.1 bt271.2.1 bt271.2.2.1) else (millhandlaw18_PickTells.j0 k false l0_0 a0_1 a0_2 a0_3 t256 t259 t260 t261 bt271.1 bt271.2.1 bt271.2.2.1))) else (millhandlaw18_PickTells.j0 k false l0_0 a0_1 a0_2 a0_3 t256 t259 t260 t261 bt271.1 bt271.2.1 bt271.2.2.1)) else (millhandlaw18_PickTells.j0 k false l0_0 a0_1 a0_2 a0_3 t256 t259 t260 t261 bt271.1 bt271.2.1 bt271.2.2.1)) else (millhandlaw18_PickTells.j0 k false l0_0 a0_1 a0_2 a0_3 t256 t259 t260 t261 bt271.1 bt271.2.1 bt271.2.2.1)) else (millhandlaw18_PickTells.j0 k false l0_0 a0_1 a0_2 a0_3 t256 t259 t260 t261 bt271.1 bt271.2.1 bt271.2.2.1)))) = some r := H
  have A12 := Aside0.mk A120
  clear A120
  replace H := Option.bind_eq_some_iff.mp H
  obtain ⟨⟨t271, t272, t275, t278⟩, A130, H⟩ := H
  replace H : ((millhandref18_Pick.f k l0_0 a0_1 a0_2 a0_3).bind fun bt280 => (if t263 = t265 then (if t264 = t266 then (if (t267 == t269) = true then (if t268 = t270 then ((millhandref18_Same.f k t271 t272 t275 bt280.1 bt280.2.1 bt280.2.2.1).bind fun t289 => (if t289 = true then (millhandlaw18_PickTells.j0 k (t278 == bt280.2.2.2) l0_0 a0_1 a0_2 a0_3 t256 t259 t260 t261 t271 t272 t275) else (millhandlaw18_PickTells.j0 k false l0_0 a0_1 a0_2 a0_3 t256 t259 t260 t261 t271 t272 t275))) else (millhandlaw18_PickTells.j0 k false l0_0 a0_1 a0_2 a0_3 t256 t259 t260 t261 t271 t272 t275)) else (millhandlaw18_PickTells.j0 k false l0_0 a0_1 a0_2 a0_3 t256 t259 t260 t261 t271 t272 t275)) else (millhandlaw18_PickTells.j0 k false l0_0 a0_1 a0_2 a0_3 t256 t259 t260 t261 t271 t272 t275)) else (millhandlaw18_PickTells.j0 k false l0_0 a0_1 a0_2 a0_3 t256 t259 t260 t261 t271 t272 t275))) = some r := H
  have A13 := Aside0.mk A130
  clear A130
  replace H := Option.bind_eq_some_iff.mp H
  obtain ⟨⟨t280, t281, t284, t287⟩, A140, H⟩ := H
  replace H : (if t263 = t265 then (if t264 = t266 then (if (t267 == t269) = true then (if t268 = t270 then ((millhandref18_Same.f k t271 t272 t275 t280 t281 t284).bind fun t289 => (if t289 = true then (millhandlaw18_PickTells.j0 k (t278 == t287) l0_0 a0_1 a0_2 a0_3 t256 t259 t260 t261 t271 t272 t275) else (millhandlaw18_PickTells.j0 k false l0_0 a0_1 a0_2 a0_3 t256 t259 t260 t261 t271 t272 t275))) else (millhandlaw18_PickTells.j0 k false l0_0 a0_1 a0_2 a0_3 t256 t259 t260 t261 t271 t272 t275)) else (millhandlaw18_PickTells.j0 k false l0_0 a0_1 a0_2 a0_3 t256 t259 t260 t261 t271 t272 t275)) else (millhandlaw18_PickTells.j0 k false l0_0 a0_1 a0_2 a0_3 t256 t259 t260 t261 t271 t272 t275)) else (millhandlaw18_PickTells.j0 k false l0_0 a0_1 a0_2 a0_3 t256 t259 t260 t261 t271 t272 t275)) = some r := H
  have A14 := Aside0.mk A140
  clear A140
  have HC15 := Aside0.mk H
  clear H
  go_enter Try.func4, Try.ntmps4
  go_upto_region 10 with (first | ((with_reducible refine gate_dst (N := 2) rfl ?_); refine box_event ?hg (N := 2) ?hd (cs := #[.slice A0_0 l0_0.length c0_0, .int .i64 a0_1, .int .i64 a0_2, .string a0_3]) (t := 24) ?hr ?_; (case hd => rfl); (case hg => rfl); (case hr => first | (go_simp; done) | (go_simp; rfl)); intro gb254 hg w16 hbox hb; have n0_ := Aside0.mk (below_step (by repeat (first | (with_reducible first | exact HB.out | apply below_alloc | apply pw_below_drewN | apply below_drew1) | exact HB.out)) hb); have n1_ := Aside0.mk (hbox); have n2_ := Aside0.mk ((by rw [hg]; exact (below_size (by repeat (first | (with_reducible first | exact HB.out | apply below_alloc | apply pw_below_drewN | apply below_drew1) | exact HB.out))) : w.heap.size ≤ gb254)); have n3_ := Aside0.mk ((by rw [hg]; exact (below_size (by repeat (first | (with_reducible first | exact HB.out | apply below_alloc | apply pw_below_drewN | apply below_drew1) | exact HB.out))) : w.heap.size ≤ gb254)); clear HB; have HB := n0_; have BK254 := n1_; have GW254 := n2_; have GE254 := n3_; clear n0_ n1_ n2_ n3_; clear hb hbox hg; have hcz17_0 : w16.cell? ⟨gb254, 0, none⟩ = some (.slice A0_0 l0_0.length c0_0) := (blk_cell BK254.out 0).trans rfl; have hcz17_1 : w16.cell? ⟨gb254, 1, none⟩ = some (.int .i64 a0_1) := (blk_cell BK254.out 1).trans rfl; have hcz17_2 : w16.cell? ⟨gb254, 2, none⟩ = some (.int .i64 a0_2) := (blk_cell BK254.out 2).trans rfl; have hcz17_3 : w16.cell? ⟨gb254, 3, none⟩ = some (.string a0_3) := (blk_cell BK254.out 3).trans rfl; have hfz17_0 := blk_frozen BK254.out 0; have hfz17_1 := blk_frozen BK254.out 1; have hfz17_2 := blk_frozen BK254.out 2; have hfz17_3 := blk_frozen BK254.out 3) | ((with_reducible refine gate_callee (f := 12) rfl ?_); refine goesL_ (some 22) rfl rfl Try.func12 (by kernel_rfl) rfl #[.agg #[.slice A0_0 l0_0.length c0_0, .int .i64 a0_1, .int .i64 a0_2, .string a0_3]] rfl (by (try simp only [List.map_toArray, List.map_cons, List.map_nil]); first | done | rfl | (simp only [List.length_drop, List.length_take]; rfl)) ?_; (with_reducible refine (millhandref16_Great.calls k _ _ l0_0 a0_1 a0_2 a0_3 false _ ?side1 ?side2 A3.out).mono ?_); (case side1 => repeat (first | exact (Kd.C_below HR0_0.out HB.out) | (with_reducible refine Kd.C_alloc ?_ _) | (with_reducible refine Kd.C_drewN ?_ _) | (with_reducible refine Kd.C_drew ?_))); (case side2 => exact HC0_0.out); rintro e w18 ⟨rfl, hb⟩; refine ⟨_, rfl, ?_⟩; have n0_ := Aside0.mk (blk_below (g := gb254) (o := .cells #[.slice A0_0 l0_0.length c0_0, .int .i64 a0_1, .int .i64 a0_2, .string a0_3] 24 (0, 0)) (by (with_reducible repeat (first | refine blk_drewN ?_ _ | refine blk_drew ?_ | refine blk_alloc ?_ _)); exact BK254.out) hb); have n1_ := Aside0.mk (below_step (by repeat (first | (with_reducible first | exact HB.out | apply below_alloc | apply pw_below_drewN | apply below_drew1 | refine below_set ?_ GE254.out) | exact HB.out)) hb); clear BK254; clear HB; have BK254 := n0_; have HB := n1_; clear n0_ n1_; (try clear hb); (try clear hb2); (try clear hk); (try clear hi); have hcz19_0 : w18.cell? ⟨gb254, 0, none⟩ = some (.slice A0_0 l0_0.length c0_0) := (blk_cell BK254.out 0).trans rfl; have hcz19_1 : w18.cell? ⟨gb254, 1, none⟩ = some (.int .i64 a0_1) := (blk_cell BK254.out 1).trans rfl; have hcz19_2 : w18.cell? ⟨gb254, 2, none⟩ = some (.int .i64 a0_2) := (blk_cell BK254.out 2).trans rfl; have hcz19_3 : w18.cell? ⟨gb254, 3, none⟩ = some (.string a0_3) := (blk_cell BK254.out 3).trans rfl; have hfz19_0 := blk_frozen BK254.out 0; have hfz19_1 := blk_frozen BK254.out 1; have hfz19_2 := blk_frozen BK254.out 2; have hfz19_3 := blk_frozen BK254.out 3) | ((with_reducible refine gate_callee (f := 13) rfl ?_); refine goesL_ (some 24) rfl rfl Try.func13 (by kernel_rfl) rfl #[.agg #[.slice A0_0 l0_0.length c0_0, .int .i64 a0_1, .int .i64 a0_2, .string a0_3]] rfl (by (try simp only [List.map_toArray, List.map_cons, List.map_nil]); first | done | rfl | (simp only [List.length_drop, List.length_take]; rfl)) ?_; (with_reducible refine (millhandref16_Twin.calls k _ _ l0_0 a0_1 a0_2 a0_3 t256 t259 t260 t261 _ ?side1 ?side2 A8.out).mono ?_); (case side1 => repeat (first | exact (Kd.C_below HR0_0.out HB.out) | (with_reducible refine Kd.C_alloc ?_ _) | (with_reducible refine Kd.C_drewN ?_ _) | (with_reducible refine Kd.C_drew ?_))); (case side2 => exact HC0_0.out); rintro e w20 ⟨v257, rfl, ho0, hb⟩; refine ⟨_, rfl, ?_⟩; have n0_ := Aside0.mk (Kd.S_lower ho0 (below_size (by repeat (first | (with_reducible first | exact HB.out | apply below_alloc | apply pw_below_drewN | apply below_drew1 | refine below_set ?_ GE254.out) | exact HB.out)))); have n1_ := Aside0.mk (blk_below (g := gb254) (o := .cells #[.slice A0_0 l0_0.length c0_0, .int .i64 a0_1, .int .i64 a0_2, .string a0_3] 24 (0, 0)) (by (with_reducible repeat (first | refine blk_drewN ?_ _ | refine blk_drew ?_ | refine blk_alloc ?_ _)); exact BK254.out) hb); have n2_ := Aside0.mk (below_step (by repeat (first | (with_reducible first | exact HB.out | apply below_alloc | apply pw_below_drewN | apply below_drew1 | refine below_set ?_ GE254.out) | exact HB.out)) hb); clear BK254; clear HB; have HO258 := n0_; have BK254 := n1_; have HB := n2_; clear n0_ n1_ n2_; (try clear hb); (try clear hb2); (try clear hk); (try clear hi); (try clear ho0)) | ((with_reducible refine gate_dst (N := 5) rfl ?_); refine box_event ?hg (N := 5) ?hd (cs := #[.slice none 0 0, .int .i64 0, .int .i64 0, .string (⟨#[]⟩ : ByteArray)]) (t := 24) ?hr ?_; (case hd => rfl); (case hg => rfl); (case hr => first | (go_simp; done) | (go_simp; rfl)); intro gb262 hg w21 hbox hb; have n0_ := Aside0.mk (Kd.S_below (by (with_reducible repeat (first | apply Kd.S_alloc | apply Kd.S_drewN | apply Kd.S_drew)); exact HO258.out) hb); have n1_ := Aside0.mk (blk_below (g := gb254) (o := .cells #[.slice A0_0 l0_0.length c0_0, .int .i64 a0_1, .int .i64 a0_2, .string a0_3] 24 (0, 0)) (by (with_reducible repeat (first | refine blk_drewN ?_ _ | refine blk_drew ?_ | refine blk_alloc ?_ _)); exact BK254.out) hb); have n2_ := Aside0.mk (below_step (by repeat (first | (with_reducible first | exact HB.out | apply below_alloc | apply pw_below_drewN | apply below_drew1 | refine below_set ?_ GE254.out) | exact HB.out)) hb); have n3_ := Aside0.mk (hbox); have n4_ := Aside0.mk ((by rw [hg]; exact (below_size (by repeat (first | (with_reducible first | exact HB.out | apply below_alloc | apply pw_below_drewN | apply below_drew1 | refine below_set ?_ GE254.out) | exact HB.out))) : w.heap.size ≤ gb262)); have n5_ := Aside0.mk ((by rw [hg]; exact (below_size (by repeat (first | (with_reducible first | exact HB.out | apply below_alloc | apply pw_below_drewN | apply below_drew1 | refine below_set ?_ GE254.out) | exact HB.out))) : w.heap.size ≤ gb262)); have n6_ := Aside0.mk ((by rw [hg]; exact Nat.ne_of_lt (blk_lt (g := gb254) (o := .cells #[.slice A0_0 l0_0.length c0_0, .int .i64 a0_1, .int .i64 a0_2, .string a0_3] 24 (0, 0)) (by (with_reducible repeat (first | refine blk_drewN ?_ _ | refine blk_drew ?_ | refine blk_alloc ?_ _)); exact BK254.out)) : gb254 ≠ gb262)); have n7_ := Aside0.mk ((by rw [hg]; exact Nat.ne_of_gt (blk_lt (g := gb254) (o := .cells #[.slice A0_0 l0_0.length c0_0, .int .i64 a0_1, .int .i64 a0_2, .string a0_3] 24 (0, 0)) (by (with_reducible repeat (first | refine blk_drewN ?_ _ | refine blk_drew ?_ | refine blk_alloc ?_ _)); exact BK254.out)) : gb262 ≠ gb254)); clear HO258; clear BK254; clear HB; have HO258 := n0_; have BK254 := n1_; have HB := n2_; have BK262 := n3_; have GW262 := n4_; have GE262 := n5_; have NB254_262 := n6_; have NB262_254 := n7_; clear n0_ n1_ n2_ n3_ n4_ n5_ n6_ n7_; clear hb hbox hg; obtain ⟨Ao22, co22, eo22⟩ := Kd.S_slice HO258.out; subst eo22; have hnb23 := NB262_254.out; have hnc23 := NB254_262.out; have hcz24_0 : w21.cell? ⟨gb262, 0, none⟩ = some (.slice none 0 0) := (blk_cell BK262.out 0).trans rfl; have hcz24_1 : w21.cell? ⟨gb262, 1, none⟩ = some (.int .i64 0) := (blk_cell BK262.out 1).trans rfl; have hcz24_2 : w21.cell? ⟨gb262, 2, none⟩ = some (.int .i64 0) := (blk_cell BK262.out 2).trans rfl; have hcz24_3 : w21.cell? ⟨gb262, 3, none⟩ = some (.string (⟨#[]⟩ : ByteArray)) := (blk_cell BK262.out 3).trans rfl; have hfz24_0 := blk_frozen BK262.out 0; have hfz24_1 := blk_frozen BK262.out 1; have hfz24_2 := blk_frozen BK262.out 2; have hfz24_3 := blk_frozen BK262.out 3) | ((with_reducible refine gate_callee (f := 9) rfl ?_); refine goesL_ (some 28) rfl rfl Try.func9 (by kernel_rfl) rfl #[.agg #[.slice Ao22 t256.length co22, .int .i64 t259, .int .i64 t260, .string t261], .int .i64 a1] rfl (by (try simp only [List.map_toArray, List.map_cons, List.map_nil]); first | done | rfl | (simp only [List.length_drop, List.length_take]; rfl)) ?_; (with_reducible refine (pick_Score.calls k _ _ t256 t259 t260 t261 a1 t263 t264 _ ?side1 ?side2 A9.out).mono ?_); (case side1 => refine (Kd.S_reads' (e := 26) (base := w.heap.size) (ok := fun k_ => True) (n := t256.length) (c := co22) ?_).2.2; exact (by (with_reducible repeat (first | apply Kd.S_alloc | apply Kd.S_drewN | apply Kd.S_drew)); exact (Kd.S_mono (Kd.S_far (p := ⟨gb262, 3, none⟩) (Kd.S_far (p := ⟨gb262, 2, none⟩) (Kd.S_far (p := ⟨gb262, 1, none⟩) (Kd.S_far (p := ⟨gb262, 0, none⟩) (Kd.S_types HO258.out BK262.out (by decide)) (fun _ hk => hk.2) (.slice Ao22 t256.length co22)) (fun _ hk => hk.2) (.int .i64 t259)) (fun _ hk => hk.2) (.int .i64 t260)) (fun _ hk => hk.2) (.string t261)) (fun _ h_ => h_.1)))); (case side2 => exact (Kd.S_reads' HO258.out).2.1); rintro e w25 ⟨rfl, hb⟩; refine ⟨_, rfl, ?_⟩; have n0_ := Aside0.mk (Kd.S_below (by (with_reducible repeat (first | apply Kd.S_alloc | apply Kd.S_drewN | apply Kd.S_drew)); exact (Kd.S_mono (Kd.S_far (p := ⟨gb262, 3, none⟩) (Kd.S_far (p := ⟨gb262, 2, none⟩) (Kd.S_far (p := ⟨gb262, 1, none⟩) (Kd.S_far (p := ⟨gb262, 0, none⟩) (Kd.S_types HO258.out BK262.out (by decide)) (fun _ hk => hk.2) (.slice Ao22 t256.length co22)) (fun _ hk => hk.2) (.int .i64 t259)) (fun _ hk => hk.2) (.int .i64 t260)) (fun _ hk => hk.2) (.string t261)) (fun _ h_ => h_.1))) hb); have n1_ := Aside0.mk (blk_below (g := gb254) (o := .cells #[.slice A0_0 l0_0.length c0_0, .int .i64 a0_1, .int .i64 a0_2, .string a0_3] 24 (0, 0)) (by (with_reducible repeat (first | refine blk_drewN ?_ _ | refine blk_drew ?_ | refine blk_alloc ?_ _)); refine blk_far ?_ NB254_262.out _; (with_reducible repeat (first | refine blk_drewN ?_ _ | refine blk_drew ?_ | refine blk_alloc ?_ _)); refine blk_far ?_ NB254_262.out _; (with_reducible repeat (first | refine blk_drewN ?_ _ | refine blk_drew ?_ | refine blk_alloc ?_ _)); refine blk_far ?_ NB254_262.out _; (with_reducible repeat (first | refine blk_drewN ?_ _ | refine blk_drew ?_ | refine blk_alloc ?_ _)); refine blk_far ?_ NB254_262.out _; (with_reducible repeat (first | refine blk_drewN ?_ _ | refine blk_drew ?_ | refine blk_alloc ?_ _)); exact BK254.out) hb); have n2_ := Aside0.mk (blk_below (g := gb262) (o := .cells #[.slice Ao22 t256.length co22, .int .i64 t259, .int .i64 t260, .string t261] 24 (0, 0)) (by (with_reducible repeat (first | refine blk_drewN ?_ _ | refine blk_drew ?_ | refine blk_alloc ?_ _)); refine blk_put (cs := #[.slice Ao22 t256.length co22, .int .i64 t259, .int .i64 t260, .string (⟨#[]⟩ : ByteArray)]) ?_ 3 _ rfl; (with_reducible repeat (first | refine blk_drewN ?_ _ | refine blk_drew ?_ | refine blk_alloc ?_ _)); refine blk_put (cs := #[.slice Ao22 t256.length co22, .int .i64 t259, .int .i64 0, .string (⟨#[]⟩ : ByteArray)]) ?_ 2 _ rfl; (with_reducible repeat (first | refine blk_drewN ?_ _ | refine blk_drew ?_ | refine blk_alloc ?_ _)); refine blk_put (cs := #[.slice Ao22 t256.length co22, .int .i64 0, .int .i64 0, .string (⟨#[]⟩ : ByteArray)]) ?_ 1 _ rfl; (with_reducible repeat (first | refine blk_drewN ?_ _ | refine blk_drew ?_ | refine blk_alloc ?_ _)); refine blk_put (cs := #[.slice none 0 0, .int .i64 0, .int .i64 0, .string (⟨#[]⟩ : ByteArray)]) ?_ 0 _ rfl; (with_reducible repeat (first | refine blk_drewN ?_ _ | refine blk_drew ?_ | refine blk_alloc ?_ _)); exact BK262.out) hb); have n3_ := Aside0.mk (below_step (by repeat (first | (with_reducible first | exact HB.out | apply below_alloc | apply pw_below_drewN | apply below_drew1 | refine below_set ?_ GE254.out | refine below_set ?_ GE262.out) | exact HB.out)) hb); clear HO258; clear BK254; clear BK262; clear HB; have HO258 := n0_; have BK254 := n1_; have BK262 := n2_; have HB := n3_; clear n0_ n1_ n2_ n3_; (try clear hb); (try clear hb2); (try clear hk); (try clear hi); have hcz26_0 : w25.cell? ⟨gb254, 0, none⟩ = some (.slice A0_0 l0_0.length c0_0) := (blk_cell BK254.out 0).trans rfl; have hcz26_1 : w25.cell? ⟨gb254, 1, none⟩ = some (.int .i64 a0_1) := (blk_cell BK254.out 1).trans rfl; have hcz26_2 : w25.cell? ⟨gb254, 2, none⟩ = some (.int .i64 a0_2) := (blk_cell BK254.out 2).trans rfl; have hcz26_3 : w25.cell? ⟨gb254, 3, none⟩ = some (.string a0_3) := (blk_cell BK254.out 3).trans rfl; have hfz26_0 := blk_frozen BK254.out 0; have hfz26_1 := blk_frozen BK254.out 1; have hfz26_2 := blk_frozen BK254.out 2; have hfz26_3 := blk_frozen BK254.out 3) | ((with_reducible refine gate_callee (f := 14) rfl ?_); refine goesL_ (some 34) rfl rfl Try.func14 (by kernel_rfl) rfl #[.agg #[.slice A0_0 l0_0.length c0_0, .int .i64 a0_1, .int .i64 a0_2, .string a0_3], .int .i64 a1] rfl (by (try simp only [List.map_toArray, List.map_cons, List.map_nil]); first | done | rfl | (simp only [List.length_drop, List.length_take]; rfl)) ?_; (with_reducible refine (millhandref18_Score.calls k _ _ l0_0 a0_1 a0_2 a0_3 a1 t265 t266 _ ?side1 ?side2 A10.out).mono ?_); (case side1 => repeat (first | exact (Kd.C_below HR0_0.out HB.out) | (with_reducible refine Kd.C_alloc ?_ _) | (with_reducible refine Kd.C_drewN ?_ _) | (with_reducible refine Kd.C_drew ?_))); (case side2 => exact HC0_0.out); rintro e w27 ⟨rfl, hb⟩; refine ⟨_, rfl, ?_⟩; have n0_ := Aside0.mk (Kd.S_below (by (with_reducible repeat (first | apply Kd.S_alloc | apply Kd.S_drewN | apply Kd.S_drew)); exact HO258.out) hb); have n1_ := Aside0.mk (blk_below (g := gb254) (o := .cells #[.slice A0_0 l0_0.length c0_0, .int .i64 a0_1, .int .i64 a0_2, .string a0_3] 24 (0, 0)) (by (with_reducible repeat (first | refine blk_drewN ?_ _ | refine blk_drew ?_ | refine blk_alloc ?_ _)); exact BK254.out) hb); have n2_ := Aside0.mk (blk_below (g := gb262) (o := .cells #[.slice Ao22 t256.length co22, .int .i64 t259, .int .i64 t260, .string t261] 24 (0, 0)) (by (with_reducible repeat (first | refine blk_drewN ?_ _ | refine blk_drew ?_ | refine blk_alloc ?_ _)); exact BK262.out) hb); have n3_ := Aside0.mk (below_step (by repeat (first | (with_reducible first | exact HB.out | apply below_alloc | apply pw_below_drewN | apply below_drew1 | refine below_set ?_ GE254.out | refine below_set ?_ GE262.out) | exact HB.out)) hb); clear HO258; clear BK254; clear BK262; clear HB; have HO258 := n0_; have BK254 := n1_; have BK262 := n2_; have HB := n3_; clear n0_ n1_ n2_ n3_; (try clear hb); (try clear hb2); (try clear hk); (try clear hi); have hcz28_0 : w27.cell? ⟨gb262, 0, none⟩ = some (.slice Ao22 t256.length co22) := (blk_cell BK262.out 0).trans rfl; have hcz28_1 : w27.cell? ⟨gb262, 1, none⟩ = some (.int .i64 t259) := (blk_cell BK262.out 1).trans rfl; have hcz28_2 : w27.cell? ⟨gb262, 2, none⟩ = some (.int .i64 t260) := (blk_cell BK262.out 2).trans rfl; have hcz28_3 : w27.cell? ⟨gb262, 3, none⟩ = some (.string t261) := (blk_cell BK262.out 3).trans rfl; have hfz28_0 := blk_frozen BK262.out 0; have hfz28_1 := blk_frozen BK262.out 1; have hfz28_2 := blk_frozen BK262.out 2; have hfz28_3 := blk_frozen BK262.out 3) | ((with_reducible refine gate_callee (f := 10) rfl ?_); refine goesL_ (some 39) rfl rfl Try.func10 (by kernel_rfl) rfl #[.agg #[.slice Ao22 t256.length co22, .int .i64 t259, .int .i64 t260, .string t261]] rfl (by (try simp only [List.map_toArray, List.map_cons, List.map_nil]); first | done | rfl | (simp only [List.length_drop, List.length_take]; rfl)) ?_; (with_reducible refine (pick_Need.calls k _ _ t256 t259 t260 t261 t267 t268 _ ?side1 ?side2 A11.out).mono ?_); (case side1 => repeat (first | exact (Kd.S_reads' HO258.out).2.2 | (with_reducible refine Kd.C_alloc ?_ _) | (with_reducible refine Kd.C_drewN ?_ _) | (with_reducible refine Kd.C_drew ?_))); (case side2 => exact (Kd.S_reads' HO258.out).2.1); rintro e w29 ⟨rfl, hb⟩; refine ⟨_, rfl, ?_⟩; have n0_ := Aside0.mk (Kd.S_below (by (with_reducible repeat (first | apply Kd.S_alloc | apply Kd.S_drewN | apply Kd.S_drew)); exact HO258.out) hb); have n1_ := Aside0.mk (blk_below (g := gb254) (o := .cells #[.slice A0_0 l0_0.length c0_0, .int .i64 a0_1, .int .i64 a0_2, .string a0_3] 24 (0, 0)) (by (with_reducible repeat (first | refine blk_drewN ?_ _ | refine blk_drew ?_ | refine blk_alloc ?_ _)); exact BK254.out) hb); have n2_ := Aside0.mk (blk_below (g := gb262) (o := .cells #[.slice Ao22 t256.length co22, .int .i64 t259, .int .i64 t260, .string t261] 24 (0, 0)) (by (with_reducible repeat (first | refine blk_drewN ?_ _ | refine blk_drew ?_ | refine blk_alloc ?_ _)); exact BK262.out) hb); have n3_ := Aside0.mk (below_step (by repeat (first | (with_reducible first | exact HB.out | apply below_alloc | apply pw_below_drewN | apply below_drew1 | refine below_set ?_ GE254.out | refine below_set ?_ GE262.out) | exact HB.out)) hb); clear HO258; clear BK254; clear BK262; clear HB; have HO258 := n0_; have BK254 := n1_; have BK262 := n2_; have HB := n3_; clear n0_ n1_ n2_ n3_; (try clear hb); (try clear hb2); (try clear hk); (try clear hi); have hcz30_0 : w29.cell? ⟨gb254, 0, none⟩ = some (.slice A0_0 l0_0.length c0_0) := (blk_cell BK254.out 0).trans rfl; have hcz30_1 : w29.cell? ⟨gb254, 1, none⟩ = some (.int .i64 a0_1) := (blk_cell BK254.out 1).trans rfl; have hcz30_2 : w29.cell? ⟨gb254, 2, none⟩ = some (.int .i64 a0_2) := (blk_cell BK254.out 2).trans rfl; have hcz30_3 : w29.cell? ⟨gb254, 3, none⟩ = some (.string a0_3) := (blk_cell BK254.out 3).trans rfl; have hfz30_0 := blk_frozen BK254.out 0; have hfz30_1 := blk_frozen BK254.out 1; have hfz30_2 := blk_frozen BK254.out 2; have hfz30_3 := blk_frozen BK254.out 3) | ((with_reducible refine gate_callee (f := 15) rfl ?_); refine goesL_ (some 44) rfl rfl Try.func15 (by kernel_rfl) rfl #[.agg #[.slice A0_0 l0_0.length c0_0, .int .i64 a0_1, .int .i64 a0_2, .string a0_3]] rfl (by (try simp only [List.map_toArray, List.map_cons, List.map_nil]); first | done | rfl | (simp only [List.length_drop, List.length_take]; rfl)) ?_; (with_reducible refine (millhandref18_Need.calls k _ _ l0_0 a0_1 a0_2 a0_3 t269 t270 _ ?side1 ?side2 A12.out).mono ?_); (case side1 => repeat (first | exact (Kd.C_below HR0_0.out HB.out) | (with_reducible refine Kd.C_alloc ?_ _) | (with_reducible refine Kd.C_drewN ?_ _) | (with_reducible refine Kd.C_drew ?_))); (case side2 => exact HC0_0.out); rintro e w31 ⟨rfl, hb⟩; refine ⟨_, rfl, ?_⟩; have n0_ := Aside0.mk (Kd.S_below (by (with_reducible repeat (first | apply Kd.S_alloc | apply Kd.S_drewN | apply Kd.S_drew)); exact HO258.out) hb); have n1_ := Aside0.mk (blk_below (g := gb254) (o := .cells #[.slice A0_0 l0_0.length c0_0, .int .i64 a0_1, .int .i64 a0_2, .string a0_3] 24 (0, 0)) (by (with_reducible repeat (first | refine blk_drewN ?_ _ | refine blk_drew ?_ | refine blk_alloc ?_ _)); exact BK254.out) hb); have n2_ := Aside0.mk (blk_below (g := gb262) (o := .cells #[.slice Ao22 t256.length co22, .int .i64 t259, .int .i64 t260, .string t261] 24 (0, 0)) (by (with_reducible repeat (first | refine blk_drewN ?_ _ | refine blk_drew ?_ | refine blk_alloc ?_ _)); exact BK262.out) hb); have n3_ := Aside0.mk (below_step (by repeat (first | (with_reducible first | exact HB.out | apply below_alloc | apply pw_below_drewN | apply below_drew1 | refine below_set ?_ GE254.out | refine below_set ?_ GE262.out) | exact HB.out)) hb); clear HO258; clear BK254; clear BK262; clear HB; have HO258 := n0_; have BK254 := n1_; have BK262 := n2_; have HB := n3_; clear n0_ n1_ n2_ n3_; (try clear hb); (try clear hb2); (try clear hk); (try clear hi); have hcz32_0 : w31.cell? ⟨gb262, 0, none⟩ = some (.slice Ao22 t256.length co22) := (blk_cell BK262.out 0).trans rfl; have hcz32_1 : w31.cell? ⟨gb262, 1, none⟩ = some (.int .i64 t259) := (blk_cell BK262.out 1).trans rfl; have hcz32_2 : w31.cell? ⟨gb262, 2, none⟩ = some (.int .i64 t260) := (blk_cell BK262.out 2).trans rfl; have hcz32_3 : w31.cell? ⟨gb262, 3, none⟩ = some (.string t261) := (blk_cell BK262.out 3).trans rfl; have hfz32_0 := blk_frozen BK262.out 0; have hfz32_1 := blk_frozen BK262.out 1; have hfz32_2 := blk_frozen BK262.out 2; have hfz32_3 := blk_frozen BK262.out 3) | ((with_reducible refine gate_callee (f := 8) rfl ?_); refine goesL_ (some 49) rfl rfl Try.func8 (by kernel_rfl) rfl #[.agg #[.slice Ao22 t256.length co22, .int .i64 t259, .int .i64 t260, .string t261]] rfl (by (try simp only [List.map_toArray, List.map_cons, List.map_nil]); first | done | rfl | (simp only [List.length_drop, List.length_take]; rfl)) ?_; (with_reducible refine (pick_Pick.calls k _ _ t256 t259 t260 t261 t271 t272 t275 t278 _ ?side1 ?side2 A13.out).mono ?_); (case side1 => repeat (first | exact (Kd.S_reads' HO258.out).2.2 | (with_reducible refine Kd.C_alloc ?_ _) | (with_reducible refine Kd.C_drewN ?_ _) | (with_reducible refine Kd.C_drew ?_))); (case side2 => exact (Kd.S_reads' HO258.out).2.1); rintro e w33 ⟨v273, v276, rfl, ho0, ho1, hb⟩; refine ⟨_, rfl, ?_⟩; have n0_ := Aside0.mk (Kd.S_mono (Kd.S_told (Kd.S_told (Kd.S_old (by (with_reducible repeat (first | apply Kd.S_alloc | apply Kd.S_drewN | apply Kd.S_drew)); exact HO258.out) hb) (Kc.R_base ho0)) (Kc.R_base ho1)) (fun _ h_ => h_.1)); have n1_ := Aside0.mk (Kc.R_lower ho0 (below_size (by repeat (first | (with_reducible first | exact HB.out | apply below_alloc | apply pw_below_drewN | apply below_drew1 | refine below_set ?_ GE254.out | refine below_set ?_ GE262.out) | exact HB.out)))); have n2_ := Aside0.mk (Kc.R_lower ho1 (below_size (by repeat (first | (with_reducible first | exact HB.out | apply below_alloc | apply pw_below_drewN | apply below_drew1 | refine below_set ?_ GE254.out | refine below_set ?_ GE262.out) | exact HB.out)))); have n3_ := Aside0.mk (blk_below (g := gb254) (o := .cells #[.slice A0_0 l0_0.length c0_0, .int .i64 a0_1, .int .i64 a0_2, .string a0_3] 24 (0, 0)) (by (with_reducible repeat (first | refine blk_drewN ?_ _ | refine blk_drew ?_ | refine blk_alloc ?_ _)); exact BK254.out) hb); have n4_ := Aside0.mk (blk_below (g := gb262) (o := .cells #[.slice Ao22 t256.length co22, .int .i64 t259, .int .i64 t260, .string t261] 24 (0, 0)) (by (with_reducible repeat (first | refine blk_drewN ?_ _ | refine blk_drew ?_ | refine blk_alloc ?_ _)); exact BK262.out) hb); have n5_ := Aside0.mk (below_step (by repeat (first | (with_reducible first | exact HB.out | apply below_alloc | apply pw_below_drewN | apply below_drew1 | refine below_set ?_ GE254.out | refine below_set ?_ GE262.out) | exact HB.out)) hb); clear HO258; clear BK254; clear BK262; clear HB; have HO258 := n0_; have HO274 := n1_; have HO277 := n2_; have BK254 := n3_; have BK262 := n4_; have HB := n5_; clear n0_ n1_ n2_ n3_ n4_ n5_; (try clear hb); (try clear hb2); (try clear hk); (try clear hi); (try clear ho0); (try clear ho1)) | ((with_reducible refine gate_dst (N := 14) rfl ?_); refine box_event ?hg (N := 14) ?hd (cs := #[.int .i64 0, .slice none 0 0, .slice none 0 0]) (t := 31) ?hr ?_; (case hd => rfl); (case hg => rfl); (case hr => first | (go_simp; done) | (go_simp; rfl)); intro gb279 hg w34 hbox hb; have n0_ := Aside0.mk (Kd.S_below (by (with_reducible repeat (first | apply Kd.S_alloc | apply Kd.S_drewN | apply Kd.S_drew)); exact HO258.out) hb); have n1_ := Aside0.mk (Kc.R_below (by (with_reducible repeat (first | apply Kc.R_alloc | apply Kc.R_drewN | apply Kc.R_drew)); exact HO274.out) hb); have n2_ := Aside0.mk (Kc.R_below (by (with_reducible repeat (first | apply Kc.R_alloc | apply Kc.R_drewN | apply Kc.R_drew)); exact HO277.out) hb); have n3_ := Aside0.mk (blk_below (g := gb254) (o := .cells #[.slice A0_0 l0_0.length c0_0, .int .i64 a0_1, .int .i64 a0_2, .string a0_3] 24 (0, 0)) (by (with_reducible repeat (first | refine blk_drewN ?_ _ | refine blk_drew ?_ | refine blk_alloc ?_ _)); exact BK254.out) hb); have n4_ := Aside0.mk (blk_below (g := gb262) (o := .cells #[.slice Ao22 t256.length co22, .int .i64 t259, .int .i64 t260, .string t261] 24 (0, 0)) (by (with_reducible repeat (first | refine blk_drewN ?_ _ | refine blk_drew ?_ | refine blk_alloc ?_ _)); exact BK262.out) hb); have n5_ := Aside0.mk (below_step (by repeat (first | (with_reducible first | exact HB.out | apply below_alloc | apply pw_below_drewN | apply below_drew1 | refine below_set ?_ GE254.out | refine below_set ?_ GE262.out) | exact HB.out)) hb); have n6_ := Aside0.mk (hbox); have n7_ := Aside0.mk ((by rw [hg]; exact (below_size (by repeat (first | (with_reducible first | exact HB.out | apply below_alloc | apply pw_below_drewN | apply below_drew1 | refine below_set ?_ GE254.out | refine below_set ?_ GE262.out) | exact HB.out))) : w.heap.size ≤ gb279)); have n8_ := Aside0.mk ((by rw [hg]; exact (below_size (by repeat (first | (with_reducible first | exact HB.out | apply below_alloc | apply pw_below_drewN | apply below_drew1 | refine below_set ?_ GE254.out | refine below_set ?_ GE262.out) | exact HB.out))) : w.heap.size ≤ gb279)); have n9_ := Aside0.mk ((by rw [hg]; exact Nat.ne_of_lt (blk_lt (g := gb254) (o := .cells #[.slice A0_0 l0_0.length c0_0, .int .i64 a0_1, .int .i64 a0_2, .string a0_3] 24 (0, 0)) (by (with_reducible repeat (first | refine blk_drewN ?_ _ | refine blk_drew ?_ | refine blk_alloc ?_ _)); exact BK254.out)) : gb254 ≠ gb279)); have n10_ := Aside0.mk ((by rw [hg]; exact Nat.ne_of_gt (blk_lt (g := gb254) (o := .cells #[.slice A0_0 l0_0.length c0_0, .int .i64 a0_1, .int .i64 a0_2, .string a0_3] 24 (0, 0)) (by (with_reducible repeat (first | refine blk_drewN ?_ _ | refine blk_drew ?_ | refine blk_alloc ?_ _)); exact BK254.out)) : gb279 ≠ gb254)); have n11_ := Aside0.mk ((by rw [hg]; exact Nat.ne_of_lt (blk_lt (g := gb262) (o := .cells #[.slice Ao22 t256.length co22, .int .i64 t259, .int .i64 t260, .string t261] 24 (0, 0)) (by (with_reducible repeat (first | refine blk_drewN ?_ _ | refine blk_drew ?_ | refine blk_alloc ?_ _)); exact BK262.out)) : gb262 ≠ gb279)); have n12_ := Aside0.mk ((by rw [hg]; exact Nat.ne_of_gt (blk_lt (g := gb262) (o := .cells #[.slice Ao22 t256.length co22, .int .i64 t259, .int .i64 t260, .string t261] 24 (0, 0)) (by (with_reducible repeat (first | refine blk_drewN ?_ _ | refine blk_drew ?_ | refine blk_alloc ?_ _)); exact BK262.out)) : gb279 ≠ gb262)); clear HO258; clear HO274; clear HO277; clear BK254; clear BK262; clear HB; have HO258 := n0_; have HO274 := n1_; have HO277 := n2_; have BK254 := n3_; have BK262 := n4_; have HB := n5_; have BK279 := n6_; have GW279 := n7_; have GE279 := n8_; have NB254_279 := n9_; have NB279_254 := n10_; have NB262_279 := n11_; have NB279_262 := n12_; clear n0_ n1_ n2_ n3_ n4_ n5_ n6_ n7_ n8_ n9_ n10_ n11_ n12_; clear hb hbox hg; have hnb35 := NB279_254.out; have hnc35 := NB254_279.out; have hnb36 := NB279_262.out; have hnc36 := NB262_279.out; have hcz37_0 : w34.cell? ⟨gb279, 0, none⟩ = some (.int .i64 0) := (blk_cell BK279.out 0).trans rfl; have hcz37_1 : w34.cell? ⟨gb279, 1, none⟩ = some (.slice none 0 0) := (blk_cell BK279.out 1).trans rfl; have hcz37_2 : w34.cell? ⟨gb279, 2, none⟩ = some (.slice none 0 0) := (blk_cell BK279.out 2).trans rfl; have hfz37_0 := blk_frozen BK279.out 0; have hfz37_1 := blk_frozen BK279.out 1; have hfz37_2 := blk_frozen BK279.out 2; obtain ⟨Ao38, co38, eo38⟩ := Kc.R_slice HO274.out; subst eo38; obtain ⟨Ao39, co39, eo39⟩ := Kc.R_slice HO277.out; subst eo39; have hcz40_0 : w34.cell? ⟨gb254, 0, none⟩ = some (.slice A0_0 l0_0.length c0_0) := (blk_cell BK254.out 0).trans rfl; have hcz40_1 : w34.cell? ⟨gb254, 1, none⟩ = some (.int .i64 a0_1) := (blk_cell BK254.out 1).trans rfl; have hcz40_2 : w34.cell? ⟨gb254, 2, none⟩ = some (.int .i64 a0_2) := (blk_cell BK254.out 2).trans rfl; have hcz40_3 : w34.cell? ⟨gb254, 3, none⟩ = some (.string a0_3) := (blk_cell BK254.out 3).trans rfl; have hfz40_0 := blk_frozen BK254.out 0; have hfz40_1 := blk_frozen BK254.out 1; have hfz40_2 := blk_frozen BK254.out 2; have hfz40_3 := blk_frozen BK254.out 3) | ((with_reducible refine gate_callee (f := 16) rfl ?_); refine goesL_ (some 54) rfl rfl Try.func16 (by kernel_rfl) rfl #[.agg #[.slice A0_0 l0_0.length c0_0, .int .i64 a0_1, .int .i64 a0_2, .string a0_3]] rfl (by (try simp only [List.map_toArray, List.map_cons, List.map_nil]); first | done | rfl | (simp only [List.length_drop, List.length_take]; rfl)) ?_; (with_reducible refine (millhandref18_Pick.calls k _ _ l0_0 a0_1 a0_2 a0_3 t280 t281 t284 t287 _ ?side1 ?side2 A14.out).mono ?_); (case side1 => exact Kd.C_below HR0_0.out (by repeat (first | (with_reducible first | exact HB.out | apply below_alloc | apply pw_below_drewN | apply below_drew1 | refine below_set ?_ GE254.out | refine below_set ?_ GE262.out | refine below_set ?_ GE279.out) | exact HB.out))); (case side2 => exact HC0_0.out); rintro e w41 ⟨v282, v285, rfl, ho0, ho1, hb⟩; replace ho0 := Kc.R_of ho0; replace ho1 := Kc.R_of ho1; refine ⟨_, rfl, ?_⟩; have n0_ := Aside0.mk (Kd.S_mono (Kd.S_told (Kd.S_told (Kd.S_old (by (with_reducible repeat (first | apply Kd.S_alloc | apply Kd.S_drewN | apply Kd.S_drew)); exact (Kd.S_mono (Kd.S_far (p := ⟨gb279, 2, none⟩) (Kd.S_far (p := ⟨gb279, 1, none⟩) (Kd.S_far (p := ⟨gb279, 0, none⟩) (Kd.S_types HO258.out BK279.out (by decide)) (fun _ hk => hk.2) (.int .i64 t271)) (fun _ hk => hk.2) (.slice Ao38 t272.length co38)) (fun _ hk => hk.2) (.slice Ao39 t275.length co39)) (fun _ h_ => h_.1))) hb) (Kc.R_base ho0)) (Kc.R_base ho1)) (fun _ h_ => h_.1)); have n1_ := Aside0.mk (Kc.R_mono (Kc.R_told (Kc.R_told (Kc.R_old (by (with_reducible repeat (first | apply Kc.R_alloc | apply Kc.R_drewN | apply Kc.R_drew)); exact (Kc.R_mono (Kc.R_far (p := ⟨gb279, 2, none⟩) (Kc.R_far (p := ⟨gb279, 1, none⟩) (Kc.R_far (p := ⟨gb279, 0, none⟩) (Kc.R_types HO274.out BK279.out (by decide)) (fun _ hk => hk.2) (.int .i64 t271)) (fun _ hk => hk.2) (.slice Ao38 t272.length co38)) (fun _ hk => hk.2) (.slice Ao39 t275.length co39)) (fun _ h_ => h_.1))) hb) (Kc.R_base ho0)) (Kc.R_base ho1)) (fun _ h_ => h_.1)); have n2_ := Aside0.mk (Kc.R_mono (Kc.R_told (Kc.R_told (Kc.R_old (by (with_reducible repeat (first | apply Kc.R_alloc | apply Kc.R_drewN | apply Kc.R_drew)); exact (Kc.R_mono (Kc.R_far (p := ⟨gb279, 2, none⟩) (Kc.R_far (p := ⟨gb279, 1, none⟩) (Kc.R_far (p := ⟨gb279, 0, none⟩) (Kc.R_types HO277.out BK279.out (by decide)) (fun _ hk => hk.2) (.int .i64 t271)) (fun _ hk => hk.2) (.slice Ao38 t272.length co38)) (fun _ hk => hk.2) (.slice Ao39 t275.length co39)) (fun _ h_ => h_.1))) hb) (Kc.R_base ho0)) (Kc.R_base ho1)) (fun _ h_ => h_.1)); have n3_ := Aside0.mk (Kc.R_lower (Kc.R_new' (Kc.R_new' ho0 (Kc.R_lt (by (with_reducible repeat (first | apply Kc.R_alloc | apply Kc.R_drewN | apply Kc.R_drew)); exact (Kc.R_mono (Kc.R_far (p := ⟨gb279, 2, none⟩) (Kc.R_far (p := ⟨gb279, 1, none⟩) (Kc.R_far (p := ⟨gb279, 0, none⟩) (Kc.R_types HO274.out BK279.out (by decide)) (fun _ hk => hk.2) (.int .i64 t271)) (fun _ hk => hk.2) (.slice Ao38 t272.length co38)) (fun _ hk => hk.2) (.slice Ao39 t275.length co39)) (fun _ h_ => h_.1))))) (Kc.R_lt (by (with_reducible repeat (first | apply Kc.R_alloc | apply Kc.R_drewN | apply Kc.R_drew)); exact (Kc.R_mono (Kc.R_far (p := ⟨gb279, 2, none⟩) (Kc.R_far (p := ⟨gb279, 1, none⟩) (Kc.R_far (p := ⟨gb279, 0, none⟩) (Kc.R_types HO277.out BK279.out (by decide)) (fun _ hk => hk.2) (.int .i64 t271)) (fun _ hk => hk.2) (.slice Ao38 t272.length co38)) (fun _ hk => hk.2) (.slice Ao39 t275.length co39)) (fun _ h_ => h_.1))))) (below_size (by repeat (first | (with_reducible first | exact HB.out | apply below_alloc | apply pw_below_drewN | apply below_drew1 | refine below_set ?_ GE254.out | refine below_set ?_ GE262.out | refine below_set ?_ GE279.out) | exact HB.out)))); have n4_ := Aside0.mk (Kc.R_lower (Kc.R_new' (Kc.R_new' ho1 (Kc.R_lt (by (with_reducible repeat (first | apply Kc.R_alloc | apply Kc.R_drewN | apply Kc.R_drew)); exact (Kc.R_mono (Kc.R_far (p := ⟨gb279, 2, none⟩) (Kc.R_far (p := ⟨gb279, 1, none⟩) (Kc.R_far (p := ⟨gb279, 0, none⟩) (Kc.R_types HO274.out BK279.out (by decide)) (fun _ hk => hk.2) (.int .i64 t271)) (fun _ hk => hk.2) (.slice Ao38 t272.length co38)) (fun _ hk => hk.2) (.slice Ao39 t275.length co39)) (fun _ h_ => h_.1))))) (Kc.R_lt (by (with_reducible repeat (first | apply Kc.R_alloc | apply Kc.R_drewN | apply Kc.R_drew)); exact (Kc.R_mono (Kc.R_far (p := ⟨gb279, 2, none⟩) (Kc.R_far (p := ⟨gb279, 1, none⟩) (Kc.R_far (p := ⟨gb279, 0, none⟩) (Kc.R_types HO277.out BK279.out (by decide)) (fun _ hk => hk.2) (.int .i64 t271)) (fun _ hk => hk.2) (.slice Ao38 t272.length co38)) (fun _ hk => hk.2) (.slice Ao39 t275.length co39)) (fun _ h_ => h_.1))))) (below_size (by repeat (first | (with_reducible first | exact HB.out | apply below_alloc | apply pw_below_drewN | apply below_drew1 | refine below_set ?_ GE254.out | refine below_set ?_ GE262.out | refine below_set ?_ GE279.out) | exact HB.out)))); have n5_ := Aside0.mk (blk_below (g := gb254) (o := .cells #[.slice A0_0 l0_0.length c0_0, .int .i64 a0_1, .int .i64 a0_2, .string a0_3] 24 (0, 0)) (by (with_reducible repeat (first | refine blk_drewN ?_ _ | refine blk_drew ?_ | refine blk_alloc ?_ _)); refine blk_far ?_ NB254_279.out _; (with_reducible repeat (first | refine blk_drewN ?_ _ | refine blk_drew ?_ | refine blk_alloc ?_ _)); refine blk_far ?_ NB254_279.out _; (with_reducible repeat (first | refine blk_drewN ?_ _ | refine blk_drew ?_ | refine blk_alloc ?_ _)); refine blk_far ?_ NB254_279.out _; (with_reducible repeat (first | refine blk_drewN ?_ _ | refine blk_drew ?_ | refine blk_alloc ?_ _)); exact BK254.out) hb); have n6_ := Aside0.mk (blk_below (g := gb262) (o := .cells #[.slice Ao22 t256.length co22, .int .i64 t259, .int .i64 t260, .string t261] 24 (0, 0)) (by (with_reducible repeat (first | refine blk_drewN ?_ _ | refine blk_drew ?_ | refine blk_alloc ?_ _)); refine blk_far ?_ NB262_279.out _; (with_reducible repeat (first | refine blk_drewN ?_ _ | refine blk_drew ?_ | refine blk_alloc ?_ _)); refine blk_far ?_ NB262_279.out _; (with_reducible repeat (first | refine blk_drewN ?_ _ | refine blk_drew ?_ | refine blk_alloc ?_ _)); refine blk_far ?_ NB262_279.out _; (with_reducible repeat (first | refine blk_drewN ?_ _ | refine blk_drew ?_ | refine blk_alloc ?_ _)); exact BK262.out) hb); have n7_ := Aside0.mk (blk_below (g := gb279) (o := .cells #[.int .i64 t271, .slice Ao38 t272.length co38, .slice Ao39 t275.length co39] 31 (0, 0)) (by (with_reducible repeat (first | refine blk_drewN ?_ _ | refine blk_drew ?_ | refine blk_alloc ?_ _)); refine blk_put (cs := #[.int .i64 t271, .slice Ao38 t272.length co38, .slice none 0 0]) ?_ 2 _ rfl; (with_reducible repeat (first | refine blk_drewN ?_ _ | refine blk_drew ?_ | refine blk_alloc ?_ _)); refine blk_put (cs := #[.int .i64 t271, .slice none 0 0, .slice none 0 0]) ?_ 1 _ rfl; (with_reducible repeat (first | refine blk_drewN ?_ _ | refine blk_drew ?_ | refine blk_alloc ?_ _)); refine blk_put (cs := #[.int .i64 0, .slice none 0 0, .slice none 0 0]) ?_ 0 _ rfl; (with_reducible repeat (first | refine blk_drewN ?_ _ | refine blk_drew ?_ | refine blk_alloc ?_ _)); exact BK279.out) hb); have n8_ := Aside0.mk (below_step (by repeat (first | (with_reducible first | exact HB.out | apply below_alloc | apply pw_below_drewN | apply below_drew1 | refine below_set ?_ GE254.out | refine below_set ?_ GE262.out | refine below_set ?_ GE279.out) | exact HB.out)) hb); clear HO258; clear HO274; clear HO277; clear BK254; clear BK262; clear BK279; clear HB; have HO258 := n0_; have HO274 := n1_; have HO277 := n2_; have HO283 := n3_; have HO286 := n4_; have BK254 := n5_; have BK262 := n6_; have BK279 := n7_; have HB := n8_; clear n0_ n1_ n2_ n3_ n4_ n5_ n6_ n7_ n8_; (try clear hb); (try clear hb2); (try clear hk); (try clear hi); (try clear ho0); (try clear ho1)) | ((with_reducible refine gate_dst (N := 16) rfl ?_); refine box_event ?hg (N := 16) ?hd (cs := #[.int .i64 0, .slice none 0 0, .slice none 0 0]) (t := 31) ?hr ?_; (case hd => rfl); (case hg => rfl); (case hr => first | (go_simp; done) | (go_simp; rfl)); intro gb288 hg w42 hbox hb; have n0_ := Aside0.mk (Kd.S_below (by (with_reducible repeat (first | apply Kd.S_alloc | apply Kd.S_drewN | apply Kd.S_drew)); exact HO258.out) hb); have n1_ := Aside0.mk (Kc.R_below (by (with_reducible repeat (first | apply Kc.R_alloc | apply Kc.R_drewN | apply Kc.R_drew)); exact HO274.out) hb); have n2_ := Aside0.mk (Kc.R_below (by (with_reducible repeat (first | apply Kc.R_alloc | apply Kc.R_drewN | apply Kc.R_drew)); exact HO277.out) hb); have n3_ := Aside0.mk (Kc.R_below (by (with_reducible repeat (first | apply Kc.R_alloc | apply Kc.R_drewN | apply Kc.R_drew)); exact HO283.out) hb); have n4_ := Aside0.mk (Kc.R_below (by (with_reducible repeat (first | apply Kc.R_alloc | apply Kc.R_drewN | apply Kc.R_drew)); exact HO286.out) hb); have n5_ := Aside0.mk (blk_below (g := gb254) (o := .cells #[.slice A0_0 l0_0.length c0_0, .int .i64 a0_1, .int .i64 a0_2, .string a0_3] 24 (0, 0)) (by (with_reducible repeat (first | refine blk_drewN ?_ _ | refine blk_drew ?_ | refine blk_alloc ?_ _)); exact BK254.out) hb); have n6_ := Aside0.mk (blk_below (g := gb262) (o := .cells #[.slice Ao22 t256.length co22, .int .i64 t259, .int .i64 t260, .string t261] 24 (0, 0)) (by (with_reducible repeat (first | refine blk_drewN ?_ _ | refine blk_drew ?_ | refine blk_alloc ?_ _)); exact BK262.out) hb); have n7_ := Aside0.mk (blk_below (g := gb279) (o := .cells #[.int .i64 t271, .slice Ao38 t272.length co38, .slice Ao39 t275.length co39] 31 (0, 0)) (by (with_reducible repeat (first | refine blk_drewN ?_ _ | refine blk_drew ?_ | refine blk_alloc ?_ _)); exact BK279.out) hb); have n8_ := Aside0.mk (below_step (by repeat (first | (with_reducible first | exact HB.out | apply below_alloc | apply pw_below_drewN | apply below_drew1 | refine below_set ?_ GE254.out | refine below_set ?_ GE262.out | refine below_set ?_ GE279.out) | exact HB.out)) hb); have n9_ := Aside0.mk (hbox); have n10_ := Aside0.mk ((by rw [hg]; exact (below_size (by repeat (first | (with_reducible first | exact HB.out | apply below_alloc | apply pw_below_drewN | apply below_drew1 | refine below_set ?_ GE254.out | refine below_set ?_ GE262.out | refine below_set ?_ GE279.out) | exact HB.out))) : w.heap.size ≤ gb288)); have n11_ := Aside0.mk ((by rw [hg]; exact (below_size (by repeat (first | (with_reducible first | exact HB.out | apply below_alloc | apply pw_below_drewN | apply below_drew1 | refine below_set ?_ GE254.out | refine below_set ?_ GE262.out | refine below_set ?_ GE279.out) | exact HB.out))) : w.heap.size ≤ gb288)); have n12_ := Aside0.mk ((by rw [hg]; exact Nat.ne_of_lt (blk_lt (g := gb254) (o := .cells #[.slice A0_0 l0_0.length c0_0, .int .i64 a0_1, .int .i64 a0_2, .string a0_3] 24 (0, 0)) (by (with_reducible repeat (first | refine blk_drewN ?_ _ | refine blk_drew ?_ | refine blk_alloc ?_ _)); exact BK254.out)) : gb254 ≠ gb288)); have n13_ := Aside0.mk ((by rw [hg]; exact Nat.ne_of_gt (blk_lt (g := gb254) (o := .cells #[.slice A0_0 l0_0.length c0_0, .int .i64 a0_1, .int .i64 a0_2, .string a0_3] 24 (0, 0)) (by (with_reducible repeat (first | refine blk_drewN ?_ _ | refine blk_drew ?_ | refine blk_alloc ?_ _)); exact BK254.out)) : gb288 ≠ gb254)); have n14_ := Aside0.mk ((by rw [hg]; exact Nat.ne_of_lt (blk_lt (g := gb262) (o := .cells #[.slice Ao22 t256.length co22, .int .i64 t259, .int .i64 t260, .string t261] 24 (0, 0)) (by (with_reducible repeat (first | refine blk_drewN ?_ _ | refine blk_drew ?_ | refine blk_alloc ?_ _)); exact BK262.out)) : gb262 ≠ gb288)); have n15_ := Aside0.mk ((by rw [hg]; exact Nat.ne_of_gt (blk_lt (g := gb262) (o := .cells #[.slice Ao22 t256.length co22, .int .i64 t259, .int .i64 t260, .string t261] 24 (0, 0)) (by (with_reducible repeat (first | refine blk_drewN ?_ _ | refine blk_drew ?_ | refine blk_alloc ?_ _)); exact BK262.out)) : gb288 ≠ gb262)); have n16_ := Aside0.mk ((by rw [hg]; exact Nat.ne_of_lt (blk_lt (g := gb279) (o := .cells #[.int .i64 t271, .slice Ao38 t272.length co38, .slice Ao39 t275.length co39] 31 (0, 0)) (by (with_reducible repeat (first | refine blk_drewN ?_ _ | refine blk_drew ?_ | refine blk_alloc ?_ _)); exact BK279.out)) : gb279 ≠ gb288)); have n17_ := Aside0.mk ((by rw [hg]; exact Nat.ne_of_gt (blk_lt (g := gb279) (o := .cells #[.int .i64 t271, .slice Ao38 t272.length co38, .slice Ao39 t275.length co39] 31 (0, 0)) (by (with_reducible repeat (first | refine blk_drewN ?_ _ | refine blk_drew ?_ | refine blk_alloc ?_ _)); exact BK279.out)) : gb288 ≠ gb279)); clear HO258; clear HO274; clear HO277; clear HO283; clear HO286; clear BK254; clear BK262; clear BK279; clear HB; have HO258 := n0_; have HO274 := n1_; have HO277 := n2_; have HO283 := n3_; have HO286 := n4_; have BK254 := n5_; have BK262 := n6_; have BK279 := n7_; have HB := n8_; have BK288 := n9_; have GW288 := n10_; have GE288 := n11_; have NB254_288 := n12_; have NB288_254 := n13_; have NB262_288 := n14_; have NB288_262 := n15_; have NB279_288 := n16_; have NB288_279 := n17_; clear n0_ n1_ n2_ n3_ n4_ n5_ n6_ n7_ n8_ n9_ n10_ n11_ n12_ n13_ n14_ n15_ n16_ n17_; clear hb hbox hg; have hnb43 := NB288_254.out; have hnc43 := NB254_288.out; have hnb44 := NB288_262.out; have hnc44 := NB262_288.out; have hnb45 := NB288_279.out; have hnc45 := NB279_288.out; have hcz46_0 : w42.cell? ⟨gb288, 0, none⟩ = some (.int .i64 0) := (blk_cell BK288.out 0).trans rfl; have hcz46_1 : w42.cell? ⟨gb288, 1, none⟩ = some (.slice none 0 0) := (blk_cell BK288.out 1).trans rfl; have hcz46_2 : w42.cell? ⟨gb288, 2, none⟩ = some (.slice none 0 0) := (blk_cell BK288.out 2).trans rfl; have hfz46_0 := blk_frozen BK288.out 0; have hfz46_1 := blk_frozen BK288.out 1; have hfz46_2 := blk_frozen BK288.out 2; obtain ⟨Ao47, co47, eo47⟩ := Kc.R_slice HO283.out; subst eo47; obtain ⟨Ao48, co48, eo48⟩ := Kc.R_slice HO286.out; subst eo48))
  (try simp only [Act.put, sa_, s0_, s1_])
  go_cut [18] (fun v18 wc => ∃ (kq : Nat) (x18_14 : Bool), v18 = .bool x18_14 ∧ Aside0 (millhandlaw18_PickTells.j0 kq x18_14 l0_0 a0_1 a0_2 a0_3 t256 t259 t260 t261 t271 t272 t275 = some r) ∧ Aside0 (kq ≤ k) ∧ Aside0 (Kd.S (Kd.slice 28 k28) 26 wc w.heap.size (fun k_ => some k_ ≠ ((.slice Ao38 t272.length co38) : Value).ownBlock ∧ some k_ ≠ ((.slice Ao39 t275.length co39) : Value).ownBlock ∧ some k_ ≠ ((.slice Ao47 t281.length co47) : Value).ownBlock ∧ some k_ ≠ ((.slice Ao48 t284.length co48) : Value).ownBlock) (.slice Ao22 t256.length co22) t256) ∧ Aside0 (Kc.R k28 28 wc w.heap.size (fun k_ => some k_ ≠ ((.slice Ao39 t275.length co39) : Value).ownBlock ∧ some k_ ≠ ((.slice Ao47 t281.length co47) : Value).ownBlock ∧ some k_ ≠ ((.slice Ao48 t284.length co48) : Value).ownBlock) (.slice Ao38 t272.length co38) t272) ∧ Aside0 (Kc.R k28 28 wc w.heap.size (fun k_ => some k_ ≠ ((.slice Ao38 t272.length co38) : Value).ownBlock ∧ some k_ ≠ ((.slice Ao47 t281.length co47) : Value).ownBlock ∧ some k_ ≠ ((.slice Ao48 t284.length co48) : Value).ownBlock) (.slice Ao39 t275.length co39) t275) ∧ Aside0 (Kc.R k28 28 wc w.heap.size (fun k_ => some k_ ≠ ((.slice Ao38 t272.length co38) : Value).ownBlock ∧ some k_ ≠ ((.slice Ao39 t275.length co39) : Value).ownBlock ∧ some k_ ≠ ((.slice Ao48 t284.length co48) : Value).ownBlock) (.slice Ao47 t281.length co47) t281) ∧ Aside0 (Kc.R k28 28 wc w.heap.size (fun k_ => some k_ ≠ ((.slice Ao38 t272.length co38) : Value).ownBlock ∧ some k_ ≠ ((.slice Ao39 t275.length co39) : Value).ownBlock ∧ some k_ ≠ ((.slice Ao47 t281.length co47) : Value).ownBlock) (.slice Ao48 t284.length co48) t284) ∧ Aside0 (wc.heap[gb254]? = some (.cells #[(.slice A0_0 l0_0.length c0_0), .int .i64 a0_1, .int .i64 a0_2, .string a0_3] 24 (0, 0))) ∧ Aside0 (wc.heap[gb262]? = some (.cells #[(.slice Ao22 t256.length co22), .int .i64 t259, .int .i64 t260, .string t261] 24 (0, 0))) ∧ Aside0 (wc.heap[gb279]? = some (.cells #[.int .i64 t271, (.slice Ao38 t272.length co38), (.slice Ao39 t275.length co39)] 31 (0, 0))) ∧ Aside0 (wc.heap[gb288]? = some (.cells #[.int .i64 t280, (.slice Ao47 t281.length co47), (.slice Ao48 t284.length co48)] 31 (0, 0))) ∧ Aside0 (Below w.heap.size w wc))
  case first =>
   have H := HC15.out
   clear HC15
   by_cases c49 : t263 = t265
   ·
    rw [if_pos c49] at H
    have c49b0 : (t263 == t265) = true := beq_iff_eq.mpr c49
    have c49b1 : (t263 != t265) = false := bne_eq_false_iff_eq.mpr c49
    clear c49
    (first | rw [c49b0] | (simp only [i64_w, i32_w]; rw [c49b0]) | skip)
    by_cases c50 : t264 = t266
    ·
     rw [if_pos c50] at H
     have c50b0 : (t264 == t266) = true := beq_iff_eq.mpr c50
     have c50b1 : (t264 != t266) = false := bne_eq_false_iff_eq.mpr c50
     clear c50
     by_cases c51 : (t267 == t269) = true
     ·
      rw [if_pos c51] at H
      have c51b0 : (t267 == t269) = true := c51
      (try (have c51b1 : decide (t267 = t269) = true := by simpa using c51))
      (try (have c51b2 : (t267 == t269) = true := by simpa using c51))
      clear c51
      by_cases c52 : t268 = t270
      ·
       rw [if_pos c52] at H
       have c52b0 : (t268 == t270) = true := beq_iff_eq.mpr c52
       have c52b1 : (t268 != t270) = false := bne_eq_false_iff_eq.mpr c52
       clear c52
       replace H := Option.bind_eq_some_iff.mp H
       obtain ⟨t289, A530, H⟩ := H
       replace H : (if t289 = true then (millhandlaw18_PickTells.j0 k (t278 == t287) l0_0 a0_1 a0_2 a0_3 t256 t259 t260 t261 t271 t272 t275) else (millhandlaw18_PickTells.j0 k false l0_0 a0_1 a0_2 a0_3 t256 t259 t260 t261 t271 t272 t275)) = some r := H
       have A53 := Aside0.mk A530
       clear A530
       by_cases c54 : t289 = true
       ·
        subst c54
        have H1 : (millhandlaw18_PickTells.j0 k (t278 == t287) l0_0 a0_1 a0_2 a0_3 t256 t259 t260 t261 t271 t272 t275) = some r := by rw [if_pos rfl] at H; exact H
        clear H
        have H := H1
        clear H1
        have H' := Aside0.mk H
        clear H
        have hnb55 := NB279_254.out
        have hnc55 := NB254_279.out
        have hnb56 := NB279_262.out
        have hnc56 := NB262_279.out
        have hnb57 := NB279_288.out
        have hnc57 := NB288_279.out
        have hcz58_0 : w42.cell? ⟨gb279, 0, none⟩ = some (.int .i64 t271) := (blk_cell BK279.out 0).trans rfl
        have hcz58_1 : w42.cell? ⟨gb279, 1, none⟩ = some (.slice Ao38 t272.length co38) := (blk_cell BK279.out 1).trans rfl
        have hcz58_2 : w42.cell? ⟨gb279, 2, none⟩ = some (.slice Ao39 t275.length co39) := (blk_cell BK279.out 2).trans rfl
        have hfz58_0 := blk_frozen BK279.out 0
        have hfz58_1 := blk_frozen BK279.out 1
        have hfz58_2 := blk_frozen BK279.out 2
        have hnb59 := NB288_254.out
        have hnc59 := NB254_288.out
        have hnb60 := NB288_262.out
        have hnc60 := NB262_288.out
        have hcz61_0 : w42.cell? ⟨gb288, 0, none⟩ = some (.int .i64 0) := (blk_cell BK288.out 0).trans rfl
        have hcz61_1 : w42.cell? ⟨gb288, 1, none⟩ = some (.slice none 0 0) := (blk_cell BK288.out 1).trans rfl
        have hcz61_2 : w42.cell? ⟨gb288, 2, none⟩ = some (.slice none 0 0) := (blk_cell BK288.out 2).trans rfl
        have hfz61_0 := blk_frozen BK288.out 0
        have hfz61_1 := blk_frozen BK288.out 1
        have hfz61_2 := blk_frozen BK288.out 2
        go_wp2_with (first | (go_at_call 17; (with_reducible refine (millhandref18_Same.calls k t271 _ _ t272 _ _ t275 t280 _ _ t281 _ _ t284 true _ ?side1 ?side2 ?side3 ?side4 ?side5 ?side6 ?side7 ?side8 A53.out).mono ?_); (case side1 => refine (Kc.R_reads' (e := 28) (base := w.heap.size) (ok := fun k_ => ((some k_ ≠ (.slice Ao39 t275.length co39 : Value).ownBlock ∧ some k_ ≠ (.slice Ao47 t281.length co47 : Value).ownBlock) ∧ some k_ ≠ (.slice Ao48 t284.length co48 : Value).ownBlock)) (n := t272.length) (c := co38) ?_).2.2; exact (by (with_reducible repeat (first | apply Kc.R_alloc | apply Kc.R_drewN | apply Kc.R_drew)); exact (Kc.R_mono (Kc.R_far (p := ⟨gb288, 2, none⟩) (Kc.R_far (p := ⟨gb288, 1, none⟩) (Kc.R_far (p := ⟨gb288, 0, none⟩) (Kc.R_types HO274.out BK288.out (by decide)) (fun _ hk => hk.2) (.int .i64 t280)) (fun _ hk => hk.2) (.slice Ao47 t281.length co47)) (fun _ hk => hk.2) (.slice Ao48 t284.length co48)) (fun _ h_ => h_.1)))); (case side2 => exact (Kc.R_reads' HO274.out).2.1); (case side3 => refine (Kc.R_reads' (e := 28) (base := w.heap.size) (ok := fun k_ => ((some k_ ≠ (.slice Ao38 t272.length co38 : Value).ownBlock ∧ some k_ ≠ (.slice Ao47 t281.length co47 : Value).ownBlock) ∧ some k_ ≠ (.slice Ao48 t284.length co48 : Value).ownBlock)) (n := t275.length) (c := co39) ?_).2.2; exact (by (with_reducible repeat (first | apply Kc.R_alloc | apply Kc.R_drewN | apply Kc.R_drew)); exact (Kc.R_mono (Kc.R_far (p := ⟨gb288, 2, none⟩) (Kc.R_far (p := ⟨gb288, 1, none⟩) (Kc.R_far (p := ⟨gb288, 0, none⟩) (Kc.R_types HO277.out BK288.out (by decide)) (fun _ hk => hk.2) (.int .i64 t280)) (fun _ hk => hk.2) (.slice Ao47 t281.length co47)) (fun _ hk => hk.2) (.slice Ao48 t284.length co48)) (fun _ h_ => h_.1)))); (case side4 => exact (Kc.R_reads' HO277.out).2.1); (case side5 => refine (Kc.R_reads' (e := 28) (base := w.heap.size) (ok := fun k_ => ((some k_ ≠ (.slice Ao48 t284.length co48 : Value).ownBlock ∧ some k_ ≠ (.slice Ao38 t272.length co38 : Value).ownBlock) ∧ some k_ ≠ (.slice Ao39 t275.length co39 : Value).ownBlock)) (n := t281.length) (c := co47) ?_).2.2; exact (by (with_reducible repeat (first | apply Kc.R_alloc | apply Kc.R_drewN | apply Kc.R_drew)); exact (Kc.R_mono (Kc.R_far (p := ⟨gb288, 2, none⟩) (Kc.R_far (p := ⟨gb288, 1, none⟩) (Kc.R_far (p := ⟨gb288, 0, none⟩) (Kc.R_types HO283.out BK288.out (by decide)) (fun _ hk => hk.2) (.int .i64 t280)) (fun _ hk => hk.2) (.slice Ao47 t281.length co47)) (fun _ hk => hk.2) (.slice Ao48 t284.length co48)) (fun _ h_ => h_.1)))); (case side6 => exact (Kc.R_reads' HO283.out).2.1); (case side7 => refine (Kc.R_reads' (e := 28) (base := w.heap.size) (ok := fun k_ => ((some k_ ≠ (.slice Ao47 t281.length co47 : Value).ownBlock ∧ some k_ ≠ (.slice Ao38 t272.length co38 : Value).ownBlock) ∧ some k_ ≠ (.slice Ao39 t275.length co39 : Value).ownBlock)) (n := t284.length) (c := co48) ?_).2.2; exact (by (with_reducible repeat (first | apply Kc.R_alloc | apply Kc.R_drewN | apply Kc.R_drew)); exact (Kc.R_mono (Kc.R_far (p := ⟨gb288, 2, none⟩) (Kc.R_far (p := ⟨gb288, 1, none⟩) (Kc.R_far (p := ⟨gb288, 0, none⟩) (Kc.R_types HO286.out BK288.out (by decide)) (fun _ hk => hk.2) (.int .i64 t280)) (fun _ hk => hk.2) (.slice Ao47 t281.length co47)) (fun _ hk => hk.2) (.slice Ao48 t284.length co48)) (fun _ h_ => h_.1)))); (case side8 => exact (Kc.R_reads' HO286.out).2.1); rintro e w62 ⟨rfl, hb⟩; have n0_ := Aside0.mk (Kd.S_below (by (with_reducible repeat (first | apply Kd.S_alloc | apply Kd.S_drewN | apply Kd.S_drew)); exact (Kd.S_mono (Kd.S_far (p := ⟨gb288, 2, none⟩) (Kd.S_far (p := ⟨gb288, 1, none⟩) (Kd.S_far (p := ⟨gb288, 0, none⟩) (Kd.S_types HO258.out BK288.out (by decide)) (fun _ hk => hk.2) (.int .i64 t280)) (fun _ hk => hk.2) (.slice Ao47 t281.length co47)) (fun _ hk => hk.2) (.slice Ao48 t284.length co48)) (fun _ h_ => h_.1))) hb); have n1_ := Aside0.mk (Kc.R_below (by (with_reducible repeat (first | apply Kc.R_alloc | apply Kc.R_drewN | apply Kc.R_drew)); exact (Kc.R_mono (Kc.R_far (p := ⟨gb288, 2, none⟩) (Kc.R_far (p := ⟨gb288, 1, none⟩) (Kc.R_far (p := ⟨gb288, 0, none⟩) (Kc.R_types HO274.out BK288.out (by decide)) (fun _ hk => hk.2) (.int .i64 t280)) (fun _ hk => hk.2) (.slice Ao47 t281.length co47)) (fun _ hk => hk.2) (.slice Ao48 t284.length co48)) (fun _ h_ => h_.1))) hb); have n2_ := Aside0.mk (Kc.R_below (by (with_reducible repeat (first | apply Kc.R_alloc | apply Kc.R_drewN | apply Kc.R_drew)); exact (Kc.R_mono (Kc.R_far (p := ⟨gb288, 2, none⟩) (Kc.R_far (p := ⟨gb288, 1, none⟩) (Kc.R_far (p := ⟨gb288, 0, none⟩) (Kc.R_types HO277.out BK288.out (by decide)) (fun _ hk => hk.2) (.int .i64 t280)) (fun _ hk => hk.2) (.slice Ao47 t281.length co47)) (fun _ hk => hk.2) (.slice Ao48 t284.length co48)) (fun _ h_ => h_.1))) hb); have n3_ := Aside0.mk (Kc.R_below (by (with_reducible repeat (first | apply Kc.R_alloc | apply Kc.R_drewN | apply Kc.R_drew)); exact (Kc.R_mono (Kc.R_far (p := ⟨gb288, 2, none⟩) (Kc.R_far (p := ⟨gb288, 1, none⟩) (Kc.R_far (p := ⟨gb288, 0, none⟩) (Kc.R_types HO283.out BK288.out (by decide)) (fun _ hk => hk.2) (.int .i64 t280)) (fun _ hk => hk.2) (.slice Ao47 t281.length co47)) (fun _ hk => hk.2) (.slice Ao48 t284.length co48)) (fun _ h_ => h_.1))) hb); have n4_ := Aside0.mk (Kc.R_below (by (with_reducible repeat (first | apply Kc.R_alloc | apply Kc.R_drewN | apply Kc.R_drew)); exact (Kc.R_mono (Kc.R_far (p := ⟨gb288, 2, none⟩) (Kc.R_far (p := ⟨gb288, 1, none⟩) (Kc.R_far (p := ⟨gb288, 0, none⟩) (Kc.R_types HO286.out BK288.out (by decide)) (fun _ hk => hk.2) (.int .i64 t280)) (fun _ hk => hk.2) (.slice Ao47 t281.length co47)) (fun _ hk => hk.2) (.slice Ao48 t284.length co48)) (fun _ h_ => h_.1))) hb); have n5_ := Aside0.mk (blk_below (g := gb254) (o := .cells #[.slice A0_0 l0_0.length c0_0, .int .i64 a0_1, .int .i64 a0_2, .string a0_3] 24 (0, 0)) (by (with_reducible repeat (first | refine blk_drewN ?_ _ | refine blk_drew ?_ | refine blk_alloc ?_ _)); refine blk_far ?_ NB254_288.out _; (with_reducible repeat (first | refine blk_drewN ?_ _ | refine blk_drew ?_ | refine blk_alloc ?_ _)); refine blk_far ?_ NB254_288.out _; (with_reducible repeat (first | refine blk_drewN ?_ _ | refine blk_drew ?_ | refine blk_alloc ?_ _)); refine blk_far ?_ NB254_288.out _; (with_reducible repeat (first | refine blk_drewN ?_ _ | refine blk_drew ?_ | refine blk_alloc ?_ _)); exact BK254.out) hb); have n6_ := Aside0.mk (blk_below (g := gb262) (o := .cells #[.slice Ao22 t256.length co22, .int .i64 t259, .int .i64 t260, .string t261] 24 (0, 0)) (by (with_reducible repeat (first | refine blk_drewN ?_ _ | refine blk_drew ?_ | refine blk_alloc ?_ _)); refine blk_far ?_ NB262_288.out _; (with_reducible repeat (first | refine blk_drewN ?_ _ | refine blk_drew ?_ | refine blk_alloc ?_ _)); refine blk_far ?_ NB262_288.out _; (with_reducible repeat (first | refine blk_drewN ?_ _ | refine blk_drew ?_ | refine blk_alloc ?_ _)); refine blk_far ?_ NB262_288.out _; (with_reducible repeat (first | refine blk_drewN ?_ _ | refine blk_drew ?_ | refine blk_alloc ?_ _)); exact BK262.out) hb); have n7_ := Aside0.mk (blk_below (g := gb279) (o := .cells #[.int .i64 t271, .slice Ao38 t272.length co38, .slice Ao39 t275.length co39] 31 (0, 0)) (by (with_reducible repeat (first | refine blk_drewN ?_ _ | refine blk_drew ?_ | refine blk_alloc ?_ _)); refine blk_far ?_ NB279_288.out _; (with_reducible repeat (first | refine blk_drewN ?_ _ | refine blk_drew ?_ | refine blk_alloc ?_ _)); refine blk_far ?_ NB279_288.out _; (with_reducible repeat (first | refine blk_drewN ?_ _ | refine blk_drew ?_ | refine blk_alloc ?_ _)); refine blk_far ?_ NB279_288.out _; (with_reducible repeat (first | refine blk_drewN ?_ _ | refine blk_drew ?_ | refine blk_alloc ?_ _)); exact BK279.out) hb); have n8_ := Aside0.mk (blk_below (g := gb288) (o := .cells #[.int .i64 t280, .slice Ao47 t281.length co47, .slice Ao48 t284.length co48] 31 (0, 0)) (by (with_reducible repeat (first | refine blk_drewN ?_ _ | refine blk_drew ?_ | refine blk_alloc ?_ _)); refine blk_put (cs := #[.int .i64 t280, .slice Ao47 t281.length co47, .slice none 0 0]) ?_ 2 _ rfl; (with_reducible repeat (first | refine blk_drewN ?_ _ | refine blk_drew ?_ | refine blk_alloc ?_ _)); refine blk_put (cs := #[.int .i64 t280, .slice none 0 0, .slice none 0 0]) ?_ 1 _ rfl; (with_reducible repeat (first | refine blk_drewN ?_ _ | refine blk_drew ?_ | refine blk_alloc ?_ _)); refine blk_put (cs := #[.int .i64 0, .slice none 0 0, .slice none 0 0]) ?_ 0 _ rfl; (with_reducible repeat (first | refine blk_drewN ?_ _ | refine blk_drew ?_ | refine blk_alloc ?_ _)); exact BK288.out) hb); have n9_ := Aside0.mk (below_step (by repeat (first | (with_reducible first | exact HB.out | apply below_alloc | apply pw_below_drewN | apply below_drew1 | refine below_set ?_ GE254.out | refine below_set ?_ GE262.out | refine below_set ?_ GE279.out | refine below_set ?_ GE288.out) | exact HB.out)) hb); clear HO258; clear HO274; clear HO277; clear HO283; clear HO286; clear BK254; clear BK262; clear BK279; clear BK288; clear HB; have HO258 := n0_; have HO274 := n1_; have HO277 := n2_; have HO283 := n3_; have HO286 := n4_; have BK254 := n5_; have BK262 := n6_; have BK279 := n7_; have BK288 := n8_; have HB := n9_; clear n0_ n1_ n2_ n3_ n4_ n5_ n6_ n7_ n8_ n9_; (try clear hb); (try clear hb2); (try clear hk); (try clear hi)))
        go_meet
        case rel => exact ⟨_, ((t278 == t287)), (by first | rfl | (simp; done) | (simp [*]; done)), H', ⟨by first | omega | exact Nat.le_refl _⟩, ⟨by (with_reducible repeat (first | apply Kd.S_alloc | apply Kd.S_drewN | apply Kd.S_drew)); exact Kd.S_mono HO258.out (fun _ hk => ⟨hk.1.1.1.2, ⟨hk.1.1.2, ⟨hk.1.2, hk.2⟩⟩⟩)⟩, ⟨by (with_reducible repeat (first | apply Kc.R_alloc | apply Kc.R_drewN | apply Kc.R_drew)); exact Kc.R_mono HO274.out (fun _ hk => ⟨hk.1.1, ⟨hk.1.2, hk.2⟩⟩)⟩, ⟨by (with_reducible repeat (first | apply Kc.R_alloc | apply Kc.R_drewN | apply Kc.R_drew)); exact Kc.R_mono HO277.out (fun _ hk => ⟨hk.1.1, ⟨hk.1.2, hk.2⟩⟩)⟩, ⟨by (with_reducible repeat (first | apply Kc.R_alloc | apply Kc.R_drewN | apply Kc.R_drew)); exact Kc.R_mono HO283.out (fun _ hk => ⟨hk.1.2, ⟨hk.2, hk.1.1⟩⟩)⟩, ⟨by (with_reducible repeat (first | apply Kc.R_alloc | apply Kc.R_drewN | apply Kc.R_drew)); exact Kc.R_mono HO286.out (fun _ hk => ⟨hk.1.2, ⟨hk.2, hk.1.1⟩⟩)⟩, ⟨by (with_reducible repeat (first | refine blk_drewN ?_ _ | refine blk_drew ?_ | refine blk_alloc ?_ _)); exact BK254.out⟩, ⟨by (with_reducible repeat (first | refine blk_drewN ?_ _ | refine blk_drew ?_ | refine blk_alloc ?_ _)); exact BK262.out⟩, ⟨by (with_reducible repeat (first | refine blk_drewN ?_ _ | refine blk_drew ?_ | refine blk_alloc ?_ _)); exact BK279.out⟩, ⟨by (with_reducible repeat (first | refine blk_drewN ?_ _ | refine blk_drew ?_ | refine blk_alloc ?_ _)); exact BK288.out⟩, ⟨by repeat (first | (with_reducible first | exact HB.out | apply below_alloc | apply pw_below_drewN | apply below_drew1 | refine below_set ?_ GE254.out | refine below_set ?_ GE262.out | refine below_set ?_ GE279.out | refine below_set ?_ GE288.out) | exact HB.out)⟩⟩
       ·
        replace c54 := Bool.eq_false_iff.mpr c54
        subst c54
        have H1 : (millhandlaw18_PickTells.j0 k false l0_0 a0_1 a0_2 a0_3 t256 t259 t260 t261 t271 t272 t275) = some r := by rw [if_neg (show ¬ (false = true) by decide)] at H; exact H
        clear H
        have H := H1
        clear H1
        have H' := Aside0.mk H
        clear H
        have hnb63 := NB279_254.out
        have hnc63 := NB254_279.out
        have hnb64 := NB279_262.out
        have hnc64 := NB262_279.out
        have hnb65 := NB279_288.out
        have hnc65 := NB288_279.out
        have hcz66_0 : w42.cell? ⟨gb279, 0, none⟩ = some (.int .i64 t271) := (blk_cell BK279.out 0).trans rfl
        have hcz66_1 : w42.cell? ⟨gb279, 1, none⟩ = some (.slice Ao38 t272.length co38) := (blk_cell BK279.out 1).trans rfl
        have hcz66_2 : w42.cell? ⟨gb279, 2, none⟩ = some (.slice Ao39 t275.length co39) := (blk_cell BK279.out 2).trans rfl
        have hfz66_0 := blk_frozen BK279.out 0
        have hfz66_1 := blk_frozen BK279.out 1
        have hfz66_2 := blk_frozen BK279.out 2
        have hnb67 := NB288_254.out
        have hnc67 := NB254_288.out
        have hnb68 := NB288_262.out
        have hnc68 := NB262_288.out
        have hcz69_0 : w42.cell? ⟨gb288, 0, none⟩ = some (.int .i64 0) := (blk_cell BK288.out 0).trans rfl
        have hcz69_1 : w42.cell? ⟨gb288, 1, none⟩ = some (.slice none 0 0) := (blk_cell BK288.out 1).trans rfl
        have hcz69_2 : w42.cell? ⟨gb288, 2, none⟩ = some (.slice none 0 0) := (blk_cell BK288.out 2).trans rfl
        have hfz69_0 := blk_frozen BK288.out 0
        have hfz69_1 := blk_frozen BK288.out 1
        have hfz69_2 := blk_frozen BK288.out 2
        go_wp2_with (first | (go_at_call 17; (with_reducible refine (millhandref18_Same.calls k t271 _ _ t272 _ _ t275 t280 _ _ t281 _ _ t284 false _ ?side1 ?side2 ?side3 ?side4 ?side5 ?side6 ?side7 ?side8 A53.out).mono ?_); (case side1 => refine (Kc.R_reads' (e := 28) (base := w.heap.size) (ok := fun k_ => ((some k_ ≠ (.slice Ao39 t275.length co39 : Value).ownBlock ∧ some k_ ≠ (.slice Ao47 t281.length co47 : Value).ownBlock) ∧ some k_ ≠ (.slice Ao48 t284.length co48 : Value).ownBlock)) (n := t272.length) (c := co38) ?_).2.2; exact (by (with_reducible repeat (first | apply Kc.R_alloc | apply Kc.R_drewN | apply Kc.R_drew)); exact (Kc.R_mono (Kc.R_far (p := ⟨gb288, 2, none⟩) (Kc.R_far (p := ⟨gb288, 1, none⟩) (Kc.R_far (p := ⟨gb288, 0, none⟩) (Kc.R_types HO274.out BK288.out (by decide)) (fun _ hk => hk.2) (.int .i64 t280)) (fun _ hk => hk.2) (.slice Ao47 t281.length co47)) (fun _ hk => hk.2) (.slice Ao48 t284.length co48)) (fun _ h_ => h_.1)))); (case side2 => exact (Kc.R_reads' HO274.out).2.1); (case side3 => refine (Kc.R_reads' (e := 28) (base := w.heap.size) (ok := fun k_ => ((some k_ ≠ (.slice Ao38 t272.length co38 : Value).ownBlock ∧ some k_ ≠ (.slice Ao47 t281.length co47 : Value).ownBlock) ∧ some k_ ≠ (.slice Ao48 t284.length co48 : Value).ownBlock)) (n := t275.length) (c := co39) ?_).2.2; exact (by (with_reducible repeat (first | apply Kc.R_alloc | apply Kc.R_drewN | apply Kc.R_drew)); exact (Kc.R_mono (Kc.R_far (p := ⟨gb288, 2, none⟩) (Kc.R_far (p := ⟨gb288, 1, none⟩) (Kc.R_far (p := ⟨gb288, 0, none⟩) (Kc.R_types HO277.out BK288.out (by decide)) (fun _ hk => hk.2) (.int .i64 t280)) (fun _ hk => hk.2) (.slice Ao47 t281.length co47)) (fun _ hk => hk.2) (.slice Ao48 t284.length co48)) (fun _ h_ => h_.1)))); (case side4 => exact (Kc.R_reads' HO277.out).2.1); (case side5 => refine (Kc.R_reads' (e := 28) (base := w.heap.size) (ok := fun k_ => ((some k_ ≠ (.slice Ao48 t284.length co48 : Value).ownBlock ∧ some k_ ≠ (.slice Ao38 t272.length co38 : Value).ownBlock) ∧ some k_ ≠ (.slice Ao39 t275.length co39 : Value).ownBlock)) (n := t281.length) (c := co47) ?_).2.2; exact (by (with_reducible repeat (first | apply Kc.R_alloc | apply Kc.R_drewN | apply Kc.R_drew)); exact (Kc.R_mono (Kc.R_far (p := ⟨gb288, 2, none⟩) (Kc.R_far (p := ⟨gb288, 1, none⟩) (Kc.R_far (p := ⟨gb288, 0, none⟩) (Kc.R_types HO283.out BK288.out (by decide)) (fun _ hk => hk.2) (.int .i64 t280)) (fun _ hk => hk.2) (.slice Ao47 t281.length co47)) (fun _ hk => hk.2) (.slice Ao48 t284.length co48)) (fun _ h_ => h_.1)))); (case side6 => exact (Kc.R_reads' HO283.out).2.1); (case side7 => refine (Kc.R_reads' (e := 28) (base := w.heap.size) (ok := fun k_ => ((some k_ ≠ (.slice Ao47 t281.length co47 : Value).ownBlock ∧ some k_ ≠ (.slice Ao38 t272.length co38 : Value).ownBlock) ∧ some k_ ≠ (.slice Ao39 t275.length co39 : Value).ownBlock)) (n := t284.length) (c := co48) ?_).2.2; exact (by (with_reducible repeat (first | apply Kc.R_alloc | apply Kc.R_drewN | apply Kc.R_drew)); exact (Kc.R_mono (Kc.R_far (p := ⟨gb288, 2, none⟩) (Kc.R_far (p := ⟨gb288, 1, none⟩) (Kc.R_far (p := ⟨gb288, 0, none⟩) (Kc.R_types HO286.out BK288.out (by decide)) (fun _ hk => hk.2) (.int .i64 t280)) (fun _ hk => hk.2) (.slice Ao47 t281.length co47)) (fun _ hk => hk.2) (.slice Ao48 t284.length co48)) (fun _ h_ => h_.1)))); (case side8 => exact (Kc.R_reads' HO286.out).2.1); rintro e w70 ⟨rfl, hb⟩; have n0_ := Aside0.mk (Kd.S_below (by (with_reducible repeat (first | apply Kd.S_alloc | apply Kd.S_drewN | apply Kd.S_drew)); exact (Kd.S_mono (Kd.S_far (p := ⟨gb288, 2, none⟩) (Kd.S_far (p := ⟨gb288, 1, none⟩) (Kd.S_far (p := ⟨gb288, 0, none⟩) (Kd.S_types HO258.out BK288.out (by decide)) (fun _ hk => hk.2) (.int .i64 t280)) (fun _ hk => hk.2) (.slice Ao47 t281.length co47)) (fun _ hk => hk.2) (.slice Ao48 t284.length co48)) (fun _ h_ => h_.1))) hb); have n1_ := Aside0.mk (Kc.R_below (by (with_reducible repeat (first | apply Kc.R_alloc | apply Kc.R_drewN | apply Kc.R_drew)); exact (Kc.R_mono (Kc.R_far (p := ⟨gb288, 2, none⟩) (Kc.R_far (p := ⟨gb288, 1, none⟩) (Kc.R_far (p := ⟨gb288, 0, none⟩) (Kc.R_types HO274.out BK288.out (by decide)) (fun _ hk => hk.2) (.int .i64 t280)) (fun _ hk => hk.2) (.slice Ao47 t281.length co47)) (fun _ hk => hk.2) (.slice Ao48 t284.length co48)) (fun _ h_ => h_.1))) hb); have n2_ := Aside0.mk (Kc.R_below (by (with_reducible repeat (first | apply Kc.R_alloc | apply Kc.R_drewN | apply Kc.R_drew)); exact (Kc.R_mono (Kc.R_far (p := ⟨gb288, 2, none⟩) (Kc.R_far (p := ⟨gb288, 1, none⟩) (Kc.R_far (p := ⟨gb288, 0, none⟩) (Kc.R_types HO277.out BK288.out (by decide)) (fun _ hk => hk.2) (.int .i64 t280)) (fun _ hk => hk.2) (.slice Ao47 t281.length co47)) (fun _ hk => hk.2) (.slice Ao48 t284.length co48)) (fun _ h_ => h_.1))) hb); have n3_ := Aside0.mk (Kc.R_below (by (with_reducible repeat (first | apply Kc.R_alloc | apply Kc.R_drewN | apply Kc.R_drew)); exact (Kc.R_mono (Kc.R_far (p := ⟨gb288, 2, none⟩) (Kc.R_far (p := ⟨gb288, 1, none⟩) (Kc.R_far (p := ⟨gb288, 0, none⟩) (Kc.R_types HO283.out BK288.out (by decide)) (fun _ hk => hk.2) (.int .i64 t280)) (fun _ hk => hk.2) (.slice Ao47 t281.length co47)) (fun _ hk => hk.2) (.slice Ao48 t284.length co48)) (fun _ h_ => h_.1))) hb); have n4_ := Aside0.mk (Kc.R_below (by (with_reducible repeat (first | apply Kc.R_alloc | apply Kc.R_drewN | apply Kc.R_drew)); exact (Kc.R_mono (Kc.R_far (p := ⟨gb288, 2, none⟩) (Kc.R_far (p := ⟨gb288, 1, none⟩) (Kc.R_far (p := ⟨gb288, 0, none⟩) (Kc.R_types HO286.out BK288.out (by decide)) (fun _ hk => hk.2) (.int .i64 t280)) (fun _ hk => hk.2) (.slice Ao47 t281.length co47)) (fun _ hk => hk.2) (.slice Ao48 t284.length co48)) (fun _ h_ => h_.1))) hb); have n5_ := Aside0.mk (blk_below (g := gb254) (o := .cells #[.slice A0_0 l0_0.length c0_0, .int .i64 a0_1, .int .i64 a0_2, .string a0_3] 24 (0, 0)) (by (with_reducible repeat (first | refine blk_drewN ?_ _ | refine blk_drew ?_ | refine blk_alloc ?_ _)); refine blk_far ?_ NB254_288.out _; (with_reducible repeat (first | refine blk_drewN ?_ _ | refine blk_drew ?_ | refine blk_alloc ?_ _)); refine blk_far ?_ NB254_288.out _; (with_reducible repeat (first | refine blk_drewN ?_ _ | refine blk_drew ?_ | refine blk_alloc ?_ _)); refine blk_far ?_ NB254_288.out _; (with_reducible repeat (first | refine blk_drewN ?_ _ | refine blk_drew ?_ | refine blk_alloc ?_ _)); exact BK254.out) hb); have n6_ := Aside0.mk (blk_below (g := gb262) (o := .cells #[.slice Ao22 t256.length co22, .int .i64 t259, .int .i64 t260, .string t261] 24 (0, 0)) (by (with_reducible repeat (first | refine blk_drewN ?_ _ | refine blk_drew ?_ | refine blk_alloc ?_ _)); refine blk_far ?_ NB262_288.out _; (with_reducible repeat (first | refine blk_drewN ?_ _ | refine blk_drew ?_ | refine blk_alloc ?_ _)); refine blk_far ?_ NB262_288.out _; (with_reducible repeat (first | refine blk_drewN ?_ _ | refine blk_drew ?_ | refine blk_alloc ?_ _)); refine blk_far ?_ NB262_288.out _; (with_reducible repeat (first | refine blk_drewN ?_ _ | refine blk_drew ?_ | refine blk_alloc ?_ _)); exact BK262.out) hb); have n7_ := Aside0.mk (blk_below (g := gb279) (o := .cells #[.int .i64 t271, .slice Ao38 t272.length co38, .slice Ao39 t275.length co39] 31 (0, 0)) (by (with_reducible repeat (first | refine blk_drewN ?_ _ | refine blk_drew ?_ | refine blk_alloc ?_ _)); refine blk_far ?_ NB279_288.out _; (with_reducible repeat (first | refine blk_drewN ?_ _ | refine blk_drew ?_ | refine blk_alloc ?_ _)); refine blk_far ?_ NB279_288.out _; (with_reducible repeat (first | refine blk_drewN ?_ _ | refine blk_drew ?_ | refine blk_alloc ?_ _)); refine blk_far ?_ NB279_288.out _; (with_reducible repeat (first | refine blk_drewN ?_ _ | refine blk_drew ?_ | refine blk_alloc ?_ _)); exact BK279.out) hb); have n8_ := Aside0.mk (blk_below (g := gb288) (o := .cells #[.int .i64 t280, .slice Ao47 t281.length co47, .slice Ao48 t284.length co48] 31 (0, 0)) (by (with_reducible repeat (first | refine blk_drewN ?_ _ | refine blk_drew ?_ | refine blk_alloc ?_ _)); refine blk_put (cs := #[.int .i64 t280, .slice Ao47 t281.length co47, .slice none 0 0]) ?_ 2 _ rfl; (with_reducible repeat (first | refine blk_drewN ?_ _ | refine blk_drew ?_ | refine blk_alloc ?_ _)); refine blk_put (cs := #[.int .i64 t280, .slice none 0 0, .slice none 0 0]) ?_ 1 _ rfl; (with_reducible repeat (first | refine blk_drewN ?_ _ | refine blk_drew ?_ | refine blk_alloc ?_ _)); refine blk_put (cs := #[.int .i64 0, .slice none 0 0, .slice none 0 0]) ?_ 0 _ rfl; (with_reducible repeat (first | refine blk_drewN ?_ _ | refine blk_drew ?_ | refine blk_alloc ?_ _)); exact BK288.out) hb); have n9_ := Aside0.mk (below_step (by repeat (first | (with_reducible first | exact HB.out | apply below_alloc | apply pw_below_drewN | apply below_drew1 | refine below_set ?_ GE254.out | refine below_set ?_ GE262.out | refine below_set ?_ GE279.out | refine below_set ?_ GE288.out) | exact HB.out)) hb); clear HO258; clear HO274; clear HO277; clear HO283; clear HO286; clear BK254; clear BK262; clear BK279; clear BK288; clear HB; have HO258 := n0_; have HO274 := n1_; have HO277 := n2_; have HO283 := n3_; have HO286 := n4_; have BK254 := n5_; have BK262 := n6_; have BK279 := n7_; have BK288 := n8_; have HB := n9_; clear n0_ n1_ n2_ n3_ n4_ n5_ n6_ n7_ n8_ n9_; (try clear hb); (try clear hb2); (try clear hk); (try clear hi)))
        go_meet
        case rel => exact ⟨_, (false), (by first | rfl | (simp; done) | (simp [*]; done)), H', ⟨by first | omega | exact Nat.le_refl _⟩, ⟨by (with_reducible repeat (first | apply Kd.S_alloc | apply Kd.S_drewN | apply Kd.S_drew)); exact Kd.S_mono HO258.out (fun _ hk => ⟨hk.1.1.1.2, ⟨hk.1.1.2, ⟨hk.1.2, hk.2⟩⟩⟩)⟩, ⟨by (with_reducible repeat (first | apply Kc.R_alloc | apply Kc.R_drewN | apply Kc.R_drew)); exact Kc.R_mono HO274.out (fun _ hk => ⟨hk.1.1, ⟨hk.1.2, hk.2⟩⟩)⟩, ⟨by (with_reducible repeat (first | apply Kc.R_alloc | apply Kc.R_drewN | apply Kc.R_drew)); exact Kc.R_mono HO277.out (fun _ hk => ⟨hk.1.1, ⟨hk.1.2, hk.2⟩⟩)⟩, ⟨by (with_reducible repeat (first | apply Kc.R_alloc | apply Kc.R_drewN | apply Kc.R_drew)); exact Kc.R_mono HO283.out (fun _ hk => ⟨hk.1.2, ⟨hk.2, hk.1.1⟩⟩)⟩, ⟨by (with_reducible repeat (first | apply Kc.R_alloc | apply Kc.R_drewN | apply Kc.R_drew)); exact Kc.R_mono HO286.out (fun _ hk => ⟨hk.1.2, ⟨hk.2, hk.1.1⟩⟩)⟩, ⟨by (with_reducible repeat (first | refine blk_drewN ?_ _ | refine blk_drew ?_ | refine blk_alloc ?_ _)); exact BK254.out⟩, ⟨by (with_reducible repeat (first | refine blk_drewN ?_ _ | refine blk_drew ?_ | refine blk_alloc ?_ _)); exact BK262.out⟩, ⟨by (with_reducible repeat (first | refine blk_drewN ?_ _ | refine blk_drew ?_ | refine blk_alloc ?_ _)); exact BK279.out⟩, ⟨by (with_reducible repeat (first | refine blk_drewN ?_ _ | refine blk_drew ?_ | refine blk_alloc ?_ _)); exact BK288.out⟩, ⟨by repeat (first | (with_reducible first | exact HB.out | apply below_alloc | apply pw_below_drewN | apply below_drew1 | refine below_set ?_ GE254.out | refine below_set ?_ GE262.out | refine below_set ?_ GE279.out | refine below_set ?_ GE288.out) | exact HB.out)⟩⟩
      ·
       rw [if_neg c52] at H
       have c52b0 : (t268 == t270) = false := beq_eq_false_iff_ne.mpr c52
       have c52b1 : (t268 != t270) = true := bne_iff_ne.mpr c52
       have H' := Aside0.mk H
       clear H
       go_wp2
       go_meet
       case rel => exact ⟨_, (false), (by first | rfl | (simp; done) | (simp [*]; done)), H', ⟨by first | omega | exact Nat.le_refl _⟩, ⟨by (with_reducible repeat (first | apply Kd.S_alloc | apply Kd.S_drewN | apply Kd.S_drew)); exact Kd.S_mono (Kd.S_far (p := ⟨gb288, 2, none⟩) (Kd.S_far (p := ⟨gb288, 1, none⟩) (Kd.S_far (p := ⟨gb288, 0, none⟩) (Kd.S_types HO258.out BK288.out (by decide)) (fun _ hk => hk.2) (.int .i64 t280)) (fun _ hk => hk.2) (.slice Ao47 t281.length co47)) (fun _ hk => hk.2) (.slice Ao48 t284.length co48)) (fun _ hk => ⟨hk.1.1.1.1.2, ⟨hk.1.1.1.2, ⟨hk.1.1.2, hk.1.2⟩⟩⟩)⟩, ⟨by (with_reducible repeat (first | apply Kc.R_alloc | apply Kc.R_drewN | apply Kc.R_drew)); exact Kc.R_mono (Kc.R_far (p := ⟨gb288, 2, none⟩) (Kc.R_far (p := ⟨gb288, 1, none⟩) (Kc.R_far (p := ⟨gb288, 0, none⟩) (Kc.R_types HO274.out BK288.out (by decide)) (fun _ hk => hk.2) (.int .i64 t280)) (fun _ hk => hk.2) (.slice Ao47 t281.length co47)) (fun _ hk => hk.2) (.slice Ao48 t284.length co48)) (fun _ hk => ⟨hk.1.1.1, ⟨hk.1.1.2, hk.1.2⟩⟩)⟩, ⟨by (with_reducible repeat (first | apply Kc.R_alloc | apply Kc.R_drewN | apply Kc.R_drew)); exact Kc.R_mono (Kc.R_far (p := ⟨gb288, 2, none⟩) (Kc.R_far (p := ⟨gb288, 1, none⟩) (Kc.R_far (p := ⟨gb288, 0, none⟩) (Kc.R_types HO277.out BK288.out (by decide)) (fun _ hk => hk.2) (.int .i64 t280)) (fun _ hk => hk.2) (.slice Ao47 t281.length co47)) (fun _ hk => hk.2) (.slice Ao48 t284.length co48)) (fun _ hk => ⟨hk.1.1.1, ⟨hk.1.1.2, hk.1.2⟩⟩)⟩, ⟨by (with_reducible repeat (first | apply Kc.R_alloc | apply Kc.R_drewN | apply Kc.R_drew)); exact Kc.R_mono (Kc.R_far (p := ⟨gb288, 2, none⟩) (Kc.R_far (p := ⟨gb288, 1, none⟩) (Kc.R_far (p := ⟨gb288, 0, none⟩) (Kc.R_types HO283.out BK288.out (by decide)) (fun _ hk => hk.2) (.int .i64 t280)) (fun _ hk => hk.2) (.slice Ao47 t281.length co47)) (fun _ hk => hk.2) (.slice Ao48 t284.length co48)) (fun _ hk => ⟨hk.1.1.2, ⟨hk.1.2, hk.1.1.1⟩⟩)⟩, ⟨by (with_reducible repeat (first | apply Kc.R_alloc | apply Kc.R_drewN | apply Kc.R_drew)); exact Kc.R_mono (Kc.R_far (p := ⟨gb288, 2, none⟩) (Kc.R_far (p := ⟨gb288, 1, none⟩) (Kc.R_far (p := ⟨gb288, 0, none⟩) (Kc.R_types HO286.out BK288.out (by decide)) (fun _ hk => hk.2) (.int .i64 t280)) (fun _ hk => hk.2) (.slice Ao47 t281.length co47)) (fun _ hk => hk.2) (.slice Ao48 t284.length co48)) (fun _ hk => ⟨hk.1.1.2, ⟨hk.1.2, hk.1.1.1⟩⟩)⟩, ⟨by (with_reducible repeat (first | refine blk_drewN ?_ _ | refine blk_drew ?_ | refine blk_alloc ?_ _)); refine blk_far ?_ NB254_288.out _; (with_reducible repeat (first | refine blk_drewN ?_ _ | refine blk_drew ?_ | refine blk_alloc ?_ _)); refine blk_far ?_ NB254_288.out _; (with_reducible repeat (first | refine blk_drewN ?_ _ | refine blk_drew ?_ | refine blk_alloc ?_ _)); refine blk_far ?_ NB254_288.out _; (with_reducible repeat (first | refine blk_drewN ?_ _ | refine blk_drew ?_ | refine blk_alloc ?_ _)); exact BK254.out⟩, ⟨by (with_reducible repeat (first | refine blk_drewN ?_ _ | refine blk_drew ?_ | refine blk_alloc ?_ _)); refine blk_far ?_ NB262_288.out _; (with_reducible repeat (first | refine blk_drewN ?_ _ | refine blk_drew ?_ | refine blk_alloc ?_ _)); refine blk_far ?_ NB262_288.out _; (with_reducible repeat (first | refine blk_drewN ?_ _ | refine blk_drew ?_ | refine blk_alloc ?_ _)); refine blk_far ?_ NB262_288.out _; (with_reducible repeat (first | refine blk_drewN ?_ _ | refine blk_drew ?_ | refine blk_alloc ?_ _)); exact BK262.out⟩, ⟨by (with_reducible repeat (first | refine blk_drewN ?_ _ | refine blk_drew ?_ | refine blk_alloc ?_ _)); refine blk_far ?_ NB279_288.out _; (with_reducible repeat (first | refine blk_drewN ?_ _ | refine blk_drew ?_ | refine blk_alloc ?_ _)); refine blk_far ?_ NB279_288.out _; (with_reducible repeat (first | refine blk_drewN ?_ _ | refine blk_drew ?_ | refine blk_alloc ?_ _)); refine blk_far ?_ NB279_288.out _; (with_reducible repeat (first | refine blk_drewN ?_ _ | refine blk_drew ?_ | refine blk_alloc ?_ _)); exact BK279.out⟩, ⟨by (with_reducible repeat (first | refine blk_drewN ?_ _ | refine blk_drew ?_ | refine blk_alloc ?_ _)); refine blk_put (cs := #[.int .i64 t280, .slice Ao47 t281.length co47, .slice none 0 0]) ?_ 2 _ rfl; (with_reducible repeat (first | refine blk_drewN ?_ _ | refine blk_drew ?_ | refine blk_alloc ?_ _)); refine blk_put (cs := #[.int .i64 t280, .slice none 0 0, .slice none 0 0]) ?_ 1 _ rfl; (with_reducible repeat (first | refine blk_drewN ?_ _ | refine blk_drew ?_ | refine blk_alloc ?_ _)); refine blk_put (cs := #[.int .i64 0, .slice none 0 0, .slice none 0 0]) ?_ 0 _ rfl; (with_reducible repeat (first | refine blk_drewN ?_ _ | refine blk_drew ?_ | refine blk_alloc ?_ _)); exact BK288.out⟩, ⟨by repeat (first | (with_reducible first | exact HB.out | apply below_alloc | apply pw_below_drewN | apply below_drew1 | refine below_set ?_ GE254.out | refine below_set ?_ GE262.out | refine below_set ?_ GE279.out | refine below_set ?_ GE288.out) | exact HB.out)⟩⟩
     ·
      rw [if_neg c51] at H
      have c51b0 : (t267 == t269) = false := by simpa using c51
      (try (have c51b1 : decide (t267 = t269) = false := by simpa using c51))
      (try (have c51b2 : (t267 == t269) = false := by simpa using c51))
      (try (have c51b3 : ¬ (t267 = t269) := by simpa using c51))
      clear c51
      have H' := Aside0.mk H
      clear H
      go_wp2
      go_meet
      case rel => exact ⟨_, (false), (by first | rfl | (simp; done) | (simp [*]; done)), H', ⟨by first | omega | exact Nat.le_refl _⟩, ⟨by (with_reducible repeat (first | apply Kd.S_alloc | apply Kd.S_drewN | apply Kd.S_drew)); exact Kd.S_mono (Kd.S_far (p := ⟨gb288, 2, none⟩) (Kd.S_far (p := ⟨gb288, 1, none⟩) (Kd.S_far (p := ⟨gb288, 0, none⟩) (Kd.S_types HO258.out BK288.out (by decide)) (fun _ hk => hk.2) (.int .i64 t280)) (fun _ hk => hk.2) (.slice Ao47 t281.length co47)) (fun _ hk => hk.2) (.slice Ao48 t284.length co48)) (fun _ hk => ⟨hk.1.1.1.1.2, ⟨hk.1.1.1.2, ⟨hk.1.1.2, hk.1.2⟩⟩⟩)⟩, ⟨by (with_reducible repeat (first | apply Kc.R_alloc | apply Kc.R_drewN | apply Kc.R_drew)); exact Kc.R_mono (Kc.R_far (p := ⟨gb288, 2, none⟩) (Kc.R_far (p := ⟨gb288, 1, none⟩) (Kc.R_far (p := ⟨gb288, 0, none⟩) (Kc.R_types HO274.out BK288.out (by decide)) (fun _ hk => hk.2) (.int .i64 t280)) (fun _ hk => hk.2) (.slice Ao47 t281.length co47)) (fun _ hk => hk.2) (.slice Ao48 t284.length co48)) (fun _ hk => ⟨hk.1.1.1, ⟨hk.1.1.2, hk.1.2⟩⟩)⟩, ⟨by (with_reducible repeat (first | apply Kc.R_alloc | apply Kc.R_drewN | apply Kc.R_drew)); exact Kc.R_mono (Kc.R_far (p := ⟨gb288, 2, none⟩) (Kc.R_far (p := ⟨gb288, 1, none⟩) (Kc.R_far (p := ⟨gb288, 0, none⟩) (Kc.R_types HO277.out BK288.out (by decide)) (fun _ hk => hk.2) (.int .i64 t280)) (fun _ hk => hk.2) (.slice Ao47 t281.length co47)) (fun _ hk => hk.2) (.slice Ao48 t284.length co48)) (fun _ hk => ⟨hk.1.1.1, ⟨hk.1.1.2, hk.1.2⟩⟩)⟩, ⟨by (with_reducible repeat (first | apply Kc.R_alloc | apply Kc.R_drewN | apply Kc.R_drew)); exact Kc.R_mono (Kc.R_far (p := ⟨gb288, 2, none⟩) (Kc.R_far (p := ⟨gb288, 1, none⟩) (Kc.R_far (p := ⟨gb288, 0, none⟩) (Kc.R_types HO283.out BK288.out (by decide)) (fun _ hk => hk.2) (.int .i64 t280)) (fun _ hk => hk.2) (.slice Ao47 t281.length co47)) (fun _ hk => hk.2) (.slice Ao48 t284.length co48)) (fun _ hk => ⟨hk.1.1.2, ⟨hk.1.2, hk.1.1.1⟩⟩)⟩, ⟨by (with_reducible repeat (first | apply Kc.R_alloc | apply Kc.R_drewN | apply Kc.R_drew)); exact Kc.R_mono (Kc.R_far (p := ⟨gb288, 2, none⟩) (Kc.R_far (p := ⟨gb288, 1, none⟩) (Kc.R_far (p := ⟨gb288, 0, none⟩) (Kc.R_types HO286.out BK288.out (by decide)) (fun _ hk => hk.2) (.int .i64 t280)) (fun _ hk => hk.2) (.slice Ao47 t281.length co47)) (fun _ hk => hk.2) (.slice Ao48 t284.length co48)) (fun _ hk => ⟨hk.1.1.2, ⟨hk.1.2, hk.1.1.1⟩⟩)⟩, ⟨by (with_reducible repeat (first | refine blk_drewN ?_ _ | refine blk_drew ?_ | refine blk_alloc ?_ _)); refine blk_far ?_ NB254_288.out _; (with_reducible repeat (first | refine blk_drewN ?_ _ | refine blk_drew ?_ | refine blk_alloc ?_ _)); refine blk_far ?_ NB254_288.out _; (with_reducible repeat (first | refine blk_drewN ?_ _ | refine blk_drew ?_ | refine blk_alloc ?_ _)); refine blk_far ?_ NB254_288.out _; (with_reducible repeat (first | refine blk_drewN ?_ _ | refine blk_drew ?_ | refine blk_alloc ?_ _)); exact BK254.out⟩, ⟨by (with_reducible repeat (first | refine blk_drewN ?_ _ | refine blk_drew ?_ | refine blk_alloc ?_ _)); refine blk_far ?_ NB262_288.out _; (with_reducible repeat (first | refine blk_drewN ?_ _ | refine blk_drew ?_ | refine blk_alloc ?_ _)); refine blk_far ?_ NB262_288.out _; (with_reducible repeat (first | refine blk_drewN ?_ _ | refine blk_drew ?_ | refine blk_alloc ?_ _)); refine blk_far ?_ NB262_288.out _; (with_reducible repeat (first | refine blk_drewN ?_ _ | refine blk_drew ?_ | refine blk_alloc ?_ _)); exact BK262.out⟩, ⟨by (with_reducible repeat (first | refine blk_drewN ?_ _ | refine blk_drew ?_ | refine blk_alloc ?_ _)); refine blk_far ?_ NB279_288.out _; (with_reducible repeat (first | refine blk_drewN ?_ _ | refine blk_drew ?_ | refine blk_alloc ?_ _)); refine blk_far ?_ NB279_288.out _; (with_reducible repeat (first | refine blk_drewN ?_ _ | refine blk_drew ?_ | refine blk_alloc ?_ _)); refine blk_far ?_ NB279_288.out _; (with_reducible repeat (first | refine blk_drewN ?_ _ | refine blk_drew ?_ | refine blk_alloc ?_ _)); exact BK279.out⟩, ⟨by (with_reducible repeat (first | refine blk_drewN ?_ _ | refine blk_drew ?_ | refine blk_alloc ?_ _)); refine blk_put (cs := #[.int .i64 t280, .slice Ao47 t281.length co47, .slice none 0 0]) ?_ 2 _ rfl; (with_reducible repeat (first | refine blk_drewN ?_ _ | refine blk_drew ?_ | refine blk_alloc ?_ _)); refine blk_put (cs := #[.int .i64 t280, .slice none 0 0, .slice none 0 0]) ?_ 1 _ rfl; (with_reducible repeat (first | refine blk_drewN ?_ _ | refine blk_drew ?_ | refine blk_alloc ?_ _)); refine blk_put (cs := #[.int .i64 0, .slice none 0 0, .slice none 0 0]) ?_ 0 _ rfl; (with_reducible repeat (first | refine blk_drewN ?_ _ | refine blk_drew ?_ | refine blk_alloc ?_ _)); exact BK288.out⟩, ⟨by repeat (first | (with_reducible first | exact HB.out | apply below_alloc | apply pw_below_drewN | apply below_drew1 | refine below_set ?_ GE254.out | refine below_set ?_ GE262.out | refine below_set ?_ GE279.out | refine below_set ?_ GE288.out) | exact HB.out)⟩⟩
    ·
     rw [if_neg c50] at H
     have c50b0 : (t264 == t266) = false := beq_eq_false_iff_ne.mpr c50
     have c50b1 : (t264 != t266) = true := bne_iff_ne.mpr c50
     have H' := Aside0.mk H
     clear H
     go_wp2
     go_meet
     case rel => exact ⟨_, (false), (by first | rfl | (simp; done) | (simp [*]; done)), H', ⟨by first | omega | exact Nat.le_refl _⟩, ⟨by (with_reducible repeat (first | apply Kd.S_alloc | apply Kd.S_drewN | apply Kd.S_drew)); exact Kd.S_mono (Kd.S_far (p := ⟨gb288, 2, none⟩) (Kd.S_far (p := ⟨gb288, 1, none⟩) (Kd.S_far (p := ⟨gb288, 0, none⟩) (Kd.S_types HO258.out BK288.out (by decide)) (fun _ hk => hk.2) (.int .i64 t280)) (fun _ hk => hk.2) (.slice Ao47 t281.length co47)) (fun _ hk => hk.2) (.slice Ao48 t284.length co48)) (fun _ hk => ⟨hk.1.1.1.1.2, ⟨hk.1.1.1.2, ⟨hk.1.1.2, hk.1.2⟩⟩⟩)⟩, ⟨by (with_reducible repeat (first | apply Kc.R_alloc | apply Kc.R_drewN | apply Kc.R_drew)); exact Kc.R_mono (Kc.R_far (p := ⟨gb288, 2, none⟩) (Kc.R_far (p := ⟨gb288, 1, none⟩) (Kc.R_far (p := ⟨gb288, 0, none⟩) (Kc.R_types HO274.out BK288.out (by decide)) (fun _ hk => hk.2) (.int .i64 t280)) (fun _ hk => hk.2) (.slice Ao47 t281.length co47)) (fun _ hk => hk.2) (.slice Ao48 t284.length co48)) (fun _ hk => ⟨hk.1.1.1, ⟨hk.1.1.2, hk.1.2⟩⟩)⟩, ⟨by (with_reducible repeat (first | apply Kc.R_alloc | apply Kc.R_drewN | apply Kc.R_drew)); exact Kc.R_mono (Kc.R_far (p := ⟨gb288, 2, none⟩) (Kc.R_far (p := ⟨gb288, 1, none⟩) (Kc.R_far (p := ⟨gb288, 0, none⟩) (Kc.R_types HO277.out BK288.out (by decide)) (fun _ hk => hk.2) (.int .i64 t280)) (fun _ hk => hk.2) (.slice Ao47 t281.length co47)) (fun _ hk => hk.2) (.slice Ao48 t284.length co48)) (fun _ hk => ⟨hk.1.1.1, ⟨hk.1.1.2, hk.1.2⟩⟩)⟩, ⟨by (with_reducible repeat (first | apply Kc.R_alloc | apply Kc.R_drewN | apply Kc.R_drew)); exact Kc.R_mono (Kc.R_far (p := ⟨gb288, 2, none⟩) (Kc.R_far (p := ⟨gb288, 1, none⟩) (Kc.R_far (p := ⟨gb288, 0, none⟩) (Kc.R_types HO283.out BK288.out (by decide)) (fun _ hk => hk.2) (.int .i64 t280)) (fun _ hk => hk.2) (.slice Ao47 t281.length co47)) (fun _ hk => hk.2) (.slice Ao48 t284.length co48)) (fun _ hk => ⟨hk.1.1.2, ⟨hk.1.2, hk.1.1.1⟩⟩)⟩, ⟨by (with_reducible repeat (first | apply Kc.R_alloc | apply Kc.R_drewN | apply Kc.R_drew)); exact Kc.R_mono (Kc.R_far (p := ⟨gb288, 2, none⟩) (Kc.R_far (p := ⟨gb288, 1, none⟩) (Kc.R_far (p := ⟨gb288, 0, none⟩) (Kc.R_types HO286.out BK288.out (by decide)) (fun _ hk => hk.2) (.int .i64 t280)) (fun _ hk => hk.2) (.slice Ao47 t281.length co47)) (fun _ hk => hk.2) (.slice Ao48 t284.length co48)) (fun _ hk => ⟨hk.1.1.2, ⟨hk.1.2, hk.1.1.1⟩⟩)⟩, ⟨by (with_reducible repeat (first | refine blk_drewN ?_ _ | refine blk_drew ?_ | refine blk_alloc ?_ _)); refine blk_far ?_ NB254_288.out _; (with_reducible repeat (first | refine blk_drewN ?_ _ | refine blk_drew ?_ | refine blk_alloc ?_ _)); refine blk_far ?_ NB254_288.out _; (with_reducible repeat (first | refine blk_drewN ?_ _ | refine blk_drew ?_ | refine blk_alloc ?_ _)); refine blk_far ?_ NB254_288.out _; (with_reducible repeat (first | refine blk_drewN ?_ _ | refine blk_drew ?_ | refine blk_alloc ?_ _)); exact BK254.out⟩, ⟨by (with_reducible repeat (first | refine blk_drewN ?_ _ | refine blk_drew ?_ | refine blk_alloc ?_ _)); refine blk_far ?_ NB262_288.out _; (with_reducible repeat (first | refine blk_drewN ?_ _ | refine blk_drew ?_ | refine blk_alloc ?_ _)); refine blk_far ?_ NB262_288.out _; (with_reducible repeat (first | refine blk_drewN ?_ _ | refine blk_drew ?_ | refine blk_alloc ?_ _)); refine blk_far ?_ NB262_288.out _; (with_reducible repeat (first | refine blk_drewN ?_ _ | refine blk_drew ?_ | refine blk_alloc ?_ _)); exact BK262.out⟩, ⟨by (with_reducible repeat (first | refine blk_drewN ?_ _ | refine blk_drew ?_ | refine blk_alloc ?_ _)); refine blk_far ?_ NB279_288.out _; (with_reducible repeat (first | refine blk_drewN ?_ _ | refine blk_drew ?_ | refine blk_alloc ?_ _)); refine blk_far ?_ NB279_288.out _; (with_reducible repeat (first | refine blk_drewN ?_ _ | refine blk_drew ?_ | refine blk_alloc ?_ _)); refine blk_far ?_ NB279_288.out _; (with_reducible repeat (first | refine blk_drewN ?_ _ | refine blk_drew ?_ | refine blk_alloc ?_ _)); exact BK279.out⟩, ⟨by (with_reducible repeat (first | refine blk_drewN ?_ _ | refine blk_drew ?_ | refine blk_alloc ?_ _)); refine blk_put (cs := #[.int .i64 t280, .slice Ao47 t281.length co47, .slice none 0 0]) ?_ 2 _ rfl; (with_reducible repeat (first | refine blk_drewN ?_ _ | refine blk_drew ?_ | refine blk_alloc ?_ _)); refine blk_put (cs := #[.int .i64 t280, .slice none 0 0, .slice none 0 0]) ?_ 1 _ rfl; (with_reducible repeat (first | refine blk_drewN ?_ _ | refine blk_drew ?_ | refine blk_alloc ?_ _)); refine blk_put (cs := #[.int .i64 0, .slice none 0 0, .slice none 0 0]) ?_ 0 _ rfl; (with_reducible repeat (first | refine blk_drewN ?_ _ | refine blk_drew ?_ | refine blk_alloc ?_ _)); exact BK288.out⟩, ⟨by repeat (first | (with_reducible first | exact HB.out | apply below_alloc | apply pw_below_drewN | apply below_drew1 | refine below_set ?_ GE254.out | refine below_set ?_ GE262.out | refine below_set ?_ GE279.out | refine below_set ?_ GE288.out) | exact HB.out)⟩⟩
   ·
    rw [if_neg c49] at H
    have c49b0 : (t263 == t265) = false := beq_eq_false_iff_ne.mpr c49
    have c49b1 : (t263 != t265) = true := bne_iff_ne.mpr c49
    (first | rw [c49b0] | (simp only [i64_w, i32_w]; rw [c49b0]) | skip)
    have H' := Aside0.mk H
    clear H
    go_wp2
    go_meet
    case rel => exact ⟨_, (false), (by first | rfl | (simp; done) | (simp [*]; done)), H', ⟨by first | omega | exact Nat.le_refl _⟩, ⟨by (with_reducible repeat (first | apply Kd.S_alloc | apply Kd.S_drewN | apply Kd.S_drew)); exact Kd.S_mono (Kd.S_far (p := ⟨gb288, 2, none⟩) (Kd.S_far (p := ⟨gb288, 1, none⟩) (Kd.S_far (p := ⟨gb288, 0, none⟩) (Kd.S_types HO258.out BK288.out (by decide)) (fun _ hk => hk.2) (.int .i64 t280)) (fun _ hk => hk.2) (.slice Ao47 t281.length co47)) (fun _ hk => hk.2) (.slice Ao48 t284.length co48)) (fun _ hk => ⟨hk.1.1.1.1.2, ⟨hk.1.1.1.2, ⟨hk.1.1.2, hk.1.2⟩⟩⟩)⟩, ⟨by (with_reducible repeat (first | apply Kc.R_alloc | apply Kc.R_drewN | apply Kc.R_drew)); exact Kc.R_mono (Kc.R_far (p := ⟨gb288, 2, none⟩) (Kc.R_far (p := ⟨gb288, 1, none⟩) (Kc.R_far (p := ⟨gb288, 0, none⟩) (Kc.R_types HO274.out BK288.out (by decide)) (fun _ hk => hk.2) (.int .i64 t280)) (fun _ hk => hk.2) (.slice Ao47 t281.length co47)) (fun _ hk => hk.2) (.slice Ao48 t284.length co48)) (fun _ hk => ⟨hk.1.1.1, ⟨hk.1.1.2, hk.1.2⟩⟩)⟩, ⟨by (with_reducible repeat (first | apply Kc.R_alloc | apply Kc.R_drewN | apply Kc.R_drew)); exact Kc.R_mono (Kc.R_far (p := ⟨gb288, 2, none⟩) (Kc.R_far (p := ⟨gb288, 1, none⟩) (Kc.R_far (p := ⟨gb288, 0, none⟩) (Kc.R_types HO277.out BK288.out (by decide)) (fun _ hk => hk.2) (.int .i64 t280)) (fun _ hk => hk.2) (.slice Ao47 t281.length co47)) (fun _ hk => hk.2) (.slice Ao48 t284.length co48)) (fun _ hk => ⟨hk.1.1.1, ⟨hk.1.1.2, hk.1.2⟩⟩)⟩, ⟨by (with_reducible repeat (first | apply Kc.R_alloc | apply Kc.R_drewN | apply Kc.R_drew)); exact Kc.R_mono (Kc.R_far (p := ⟨gb288, 2, none⟩) (Kc.R_far (p := ⟨gb288, 1, none⟩) (Kc.R_far (p := ⟨gb288, 0, none⟩) (Kc.R_types HO283.out BK288.out (by decide)) (fun _ hk => hk.2) (.int .i64 t280)) (fun _ hk => hk.2) (.slice Ao47 t281.length co47)) (fun _ hk => hk.2) (.slice Ao48 t284.length co48)) (fun _ hk => ⟨hk.1.1.2, ⟨hk.1.2, hk.1.1.1⟩⟩)⟩, ⟨by (with_reducible repeat (first | apply Kc.R_alloc | apply Kc.R_drewN | apply Kc.R_drew)); exact Kc.R_mono (Kc.R_far (p := ⟨gb288, 2, none⟩) (Kc.R_far (p := ⟨gb288, 1, none⟩) (Kc.R_far (p := ⟨gb288, 0, none⟩) (Kc.R_types HO286.out BK288.out (by decide)) (fun _ hk => hk.2) (.int .i64 t280)) (fun _ hk => hk.2) (.slice Ao47 t281.length co47)) (fun _ hk => hk.2) (.slice Ao48 t284.length co48)) (fun _ hk => ⟨hk.1.1.2, ⟨hk.1.2, hk.1.1.1⟩⟩)⟩, ⟨by (with_reducible repeat (first | refine blk_drewN ?_ _ | refine blk_drew ?_ | refine blk_alloc ?_ _)); refine blk_far ?_ NB254_288.out _; (with_reducible repeat (first | refine blk_drewN ?_ _ | refine blk_drew ?_ | refine blk_alloc ?_ _)); refine blk_far ?_ NB254_288.out _; (with_reducible repeat (first | refine blk_drewN ?_ _ | refine blk_drew ?_ | refine blk_alloc ?_ _)); refine blk_far ?_ NB254_288.out _; (with_reducible repeat (first | refine blk_drewN ?_ _ | refine blk_drew ?_ | refine blk_alloc ?_ _)); exact BK254.out⟩, ⟨by (with_reducible repeat (first | refine blk_drewN ?_ _ | refine blk_drew ?_ | refine blk_alloc ?_ _)); refine blk_far ?_ NB262_288.out _; (with_reducible repeat (first | refine blk_drewN ?_ _ | refine blk_drew ?_ | refine blk_alloc ?_ _)); refine blk_far ?_ NB262_288.out _; (with_reducible repeat (first | refine blk_drewN ?_ _ | refine blk_drew ?_ | refine blk_alloc ?_ _)); refine blk_far ?_ NB262_288.out _; (with_reducible repeat (first | refine blk_drewN ?_ _ | refine blk_drew ?_ | refine blk_alloc ?_ _)); exact BK262.out⟩, ⟨by (with_reducible repeat (first | refine blk_drewN ?_ _ | refine blk_drew ?_ | refine blk_alloc ?_ _)); refine blk_far ?_ NB279_288.out _; (with_reducible repeat (first | refine blk_drewN ?_ _ | refine blk_drew ?_ | refine blk_alloc ?_ _)); refine blk_far ?_ NB279_288.out _; (with_reducible repeat (first | refine blk_drewN ?_ _ | refine blk_drew ?_ | refine blk_alloc ?_ _)); refine blk_far ?_ NB279_288.out _; (with_reducible repeat (first | refine blk_drewN ?_ _ | refine blk_drew ?_ | refine blk_alloc ?_ _)); exact BK279.out⟩, ⟨by (with_reducible repeat (first | refine blk_drewN ?_ _ | refine blk_drew ?_ | refine blk_alloc ?_ _)); refine blk_put (cs := #[.int .i64 t280, .slice Ao47 t281.length co47, .slice none 0 0]) ?_ 2 _ rfl; (with_reducible repeat (first | refine blk_drewN ?_ _ | refine blk_drew ?_ | refine blk_alloc ?_ _)); refine blk_put (cs := #[.int .i64 t280, .slice none 0 0, .slice none 0 0]) ?_ 1 _ rfl; (with_reducible repeat (first | refine blk_drewN ?_ _ | refine blk_drew ?_ | refine blk_alloc ?_ _)); refine blk_put (cs := #[.int .i64 0, .slice none 0 0, .slice none 0 0]) ?_ 0 _ rfl; (with_reducible repeat (first | refine blk_drewN ?_ _ | refine blk_drew ?_ | refine blk_alloc ?_ _)); exact BK288.out⟩, ⟨by repeat (first | (with_reducible first | exact HB.out | apply below_alloc | apply pw_below_drewN | apply below_drew1 | refine below_set ?_ GE254.out | refine below_set ?_ GE262.out | refine below_set ?_ GE279.out | refine below_set ?_ GE288.out) | exact HB.out)⟩⟩
  case rest =>
   clear HC15
   try clear c1
   try clear c2
   try clear p2
   try clear c3
   try clear c4
   try clear c5
   try clear c6
   try clear c8
   try clear c9
   try clear c10
   try clear c12
   try clear c13
   try clear c14
   try clear c15
   try clear c16
   try clear c23
   try clear c35
   try clear c36
   try clear c43
   try clear c44
   try clear c45
   try clear c49
   try clear c49b0
   try clear c49b1
   try clear c50
   try clear c50b0
   try clear c50b1
   try clear c51
   try clear c51b0
   try clear c51b1
   try clear c51b2
   try clear c52
   try clear c52b0
   try clear c52b1
   try clear c54
   try clear c55
   try clear c56
   try clear c57
   try clear c59
   try clear c60
   try clear c63
   try clear c64
   try clear c65
   try clear c67
   try clear c68
   try clear hcz17_0
   try clear hcz17_1
   try clear hcz17_2
   try clear hcz17_3
   try clear hcz19_0
   try clear hcz19_1
   try clear hcz19_2
   try clear hcz19_3
   try clear hcz24_0
   try clear hcz24_1
   try clear hcz24_2
   try clear hcz24_3
   try clear hcz26_0
   try clear hcz26_1
   try clear hcz26_2
   try clear hcz26_3
   try clear hcz28_0
   try clear hcz28_1
   try clear hcz28_2
   try clear hcz28_3
   try clear hcz30_0
   try clear hcz30_1
   try clear hcz30_2
   try clear hcz30_3
   try clear hcz32_0
   try clear hcz32_1
   try clear hcz32_2
   try clear hcz32_3
   try clear hcz37_0
   try clear hcz37_1
   try clear hcz37_2
   try clear hcz40_0
   try clear hcz40_1
   try clear hcz40_2
   try clear hcz40_3
   try clear hcz46_0
   try clear hcz46_1
   try clear hcz46_2
   try clear hcz58_0
   try clear hcz58_1
   try clear hcz58_2
   try clear hcz61_0
   try clear hcz61_1
   try clear hcz61_2
   try clear hcz66_0
   try clear hcz66_1
   try clear hcz66_2
   try clear hcz69_0
   try clear hcz69_1
   try clear hcz69_2
   try clear hcz6_0
   try clear hcz6_1
   try clear hcz6_2
   try clear hcz6_3
   try clear hfz17_0
   try clear hfz17_1
   try clear hfz17_2
   try clear hfz17_3
   try clear hfz19_0
   try clear hfz19_1
   try clear hfz19_2
   try clear hfz19_3
   try clear hfz24_0
   try clear hfz24_1
   try clear hfz24_2
   try clear hfz24_3
   try clear hfz26_0
   try clear hfz26_1
   try clear hfz26_2
   try clear hfz26_3
   try clear hfz28_0
   try clear hfz28_1
   try clear hfz28_2
   try clear hfz28_3
   try clear hfz30_0
   try clear hfz30_1
   try clear hfz30_2
   try clear hfz30_3
   try clear hfz32_0
   try clear hfz32_1
   try clear hfz32_2
   try clear hfz32_3
   try clear hfz37_0
   try clear hfz37_1
   try clear hfz37_2
   try clear hfz40_0
   try clear hfz40_1
   try clear hfz40_2
   try clear hfz40_3
   try clear hfz46_0
   try clear hfz46_1
   try clear hfz46_2
   try clear hfz58_0
   try clear hfz58_1
   try clear hfz58_2
   try clear hfz61_0
   try clear hfz61_1
   try clear hfz61_2
   try clear hfz66_0
   try clear hfz66_1
   try clear hfz66_2
   try clear hfz69_0
   try clear hfz69_1
   try clear hfz69_2
   try clear hfz6_0
   try clear hfz6_1
   try clear hfz6_2
   try clear hfz6_3
   obtain ⟨kq, x18_14, rfl, HA, HJ14, HO_263000, HO_280001, HO_280002, HO_289001, HO_289002, BK254, BK262, BK279, BK288, HB⟩ := hcut
   cases kq with
   | zero => exact absurd HA.out (by simp [millhandlaw18_PickTells.j0])
   | succ kj14 =>
    have H := HA.out
    clear HA
    simp only [millhandlaw18_PickTells.j0] at H
    have H' := Aside0.mk H
    clear H
    go_wp2
    go_loopg [19] kj14 (fun kq v19 w' => ∃ (x19_2 : Int) (x280001_2 : List (S28)) (x280002_2 : List (S28)) (x289001_2 : List (S28)) (x289002_2 : List (S28)) (u280001 : Value) (u280002 : Value) (u289001 : Value) (u289002 : Value), v19 = .int .i64 x19_2 ∧ Aside0 (millhandlaw18_PickTells.l0 kq x18_14 x19_2 l0_0 a0_1 a0_2 a0_3 t256 t259 t260 t261 t271 x280001_2 x280002_2 = some r) ∧ Aside0 (kq ≤ kj14) ∧ Aside0 (Kd.S (Kd.slice 28 k28) 26 w' w.heap.size (fun k_ => some k_ ≠ (u280001 : Value).ownBlock ∧ some k_ ≠ (u280002 : Value).ownBlock ∧ some k_ ≠ (u289001 : Value).ownBlock ∧ some k_ ≠ (u289002 : Value).ownBlock) (.slice Ao22 t256.length co22) t256) ∧ Aside0 (Kc.R k28 28 w' w.heap.size (fun k_ => some k_ ≠ (u280002 : Value).ownBlock ∧ some k_ ≠ (u289001 : Value).ownBlock ∧ some k_ ≠ (u289002 : Value).ownBlock) u280001 x280001_2) ∧ Aside0 (Kc.R k28 28 w' w.heap.size (fun k_ => some k_ ≠ (u280001 : Value).ownBlock ∧ some k_ ≠ (u289001 : Value).ownBlock ∧ some k_ ≠ (u289002 : Value).ownBlock) u280002 x280002_2) ∧ Aside0 (Kc.R k28 28 w' w.heap.size (fun k_ => some k_ ≠ (u280001 : Value).ownBlock ∧ some k_ ≠ (u280002 : Value).ownBlock ∧ some k_ ≠ (u289002 : Value).ownBlock) u289001 x289001_2) ∧ Aside0 (Kc.R k28 28 w' w.heap.size (fun k_ => some k_ ≠ (u280001 : Value).ownBlock ∧ some k_ ≠ (u280002 : Value).ownBlock ∧ some k_ ≠ (u289001 : Value).ownBlock) u289002 x289002_2) ∧ Aside0 (w'.heap[gb254]? = some (.cells #[(.slice A0_0 l0_0.length c0_0), .int .i64 a0_1, .int .i64 a0_2, .string a0_3] 24 (0, 0))) ∧ Aside0 (w'.heap[gb262]? = some (.cells #[(.slice Ao22 t256.length co22), .int .i64 t259, .int .i64 t260, .string t261] 24 (0, 0))) ∧ Aside0 (w'.heap[gb279]? = some (.cells #[.int .i64 t271, u280001, u280002] 31 (0, 0))) ∧ Aside0 (w'.heap[gb288]? = some (.cells #[.int .i64 t280, u289001, u289002] 31 (0, 0))) ∧ Aside0 (Below w.heap.size w w'))
    case atStart => exact ⟨(0), (t272), (t275), (t281), (t284), (.slice Ao38 t272.length co38), (.slice Ao39 t275.length co39), (.slice Ao47 t281.length co47), (.slice Ao48 t284.length co48), (by first | rfl | (simp; done) | (simp [*]; done)), H', ⟨Nat.le_refl _⟩, ⟨by (with_reducible repeat (first | apply Kd.S_alloc | apply Kd.S_drewN | apply Kd.S_drew)); exact HO_263000.out⟩, ⟨by (with_reducible repeat (first | apply Kc.R_alloc | apply Kc.R_drewN | apply Kc.R_drew)); exact HO_280001.out⟩, ⟨by (with_reducible repeat (first | apply Kc.R_alloc | apply Kc.R_drewN | apply Kc.R_drew)); exact HO_280002.out⟩, ⟨by (with_reducible repeat (first | apply Kc.R_alloc | apply Kc.R_drewN | apply Kc.R_drew)); exact HO_289001.out⟩, ⟨by (with_reducible repeat (first | apply Kc.R_alloc | apply Kc.R_drewN | apply Kc.R_drew)); exact HO_289002.out⟩, ⟨by (with_reducible repeat (first | refine blk_drewN ?_ _ | refine blk_drew ?_ | refine blk_alloc ?_ _)); exact BK254.out⟩, ⟨by (with_reducible repeat (first | refine blk_drewN ?_ _ | refine blk_drew ?_ | refine blk_alloc ?_ _)); exact BK262.out⟩, ⟨by (with_reducible repeat (first | refine blk_drewN ?_ _ | refine blk_drew ?_ | refine blk_alloc ?_ _)); exact BK279.out⟩, ⟨by (with_reducible repeat (first | refine blk_drewN ?_ _ | refine blk_drew ?_ | refine blk_alloc ?_ _)); exact BK288.out⟩, ⟨by repeat (first | (with_reducible first | exact HB.out | apply below_alloc | apply pw_below_drewN | apply below_drew1 | refine below_set ?_ GE254.out | refine below_set ?_ GE262.out | refine below_set ?_ GE279.out | refine below_set ?_ GE288.out) | exact HB.out)⟩⟩
    case round =>
     clear H'
     try clear c1
     try clear c2
     try clear p2
     try clear c3
     try clear c4
     try clear c5
     try clear c6
     try clear c8
     try clear c9
     try clear c10
     try clear c12
     try clear c13
     try clear c14
     try clear c15
     try clear c16
     try clear c23
     try clear c35
     try clear c36
     try clear c43
     try clear c44
     try clear c45
     try clear c49
     try clear c49b0
     try clear c49b1
     try clear c50
     try clear c50b0
     try clear c50b1
     try clear c51
     try clear c51b0
     try clear c51b1
     try clear c51b2
     try clear c52
     try clear c52b0
     try clear c52b1
     try clear c54
     try clear c55
     try clear c56
     try clear c57
     try clear c59
     try clear c60
     try clear c63
     try clear c64
     try clear c65
     try clear c67
     try clear c68
     try clear hcz17_0
     try clear hcz17_1
     try clear hcz17_2
     try clear hcz17_3
     try clear hcz19_0
     try clear hcz19_1
     try clear hcz19_2
     try clear hcz19_3
     try clear hcz24_0
     try clear hcz24_1
     try clear hcz24_2
     try clear hcz24_3
     try clear hcz26_0
     try clear hcz26_1
     try clear hcz26_2
     try clear hcz26_3
     try clear hcz28_0
     try clear hcz28_1
     try clear hcz28_2
     try clear hcz28_3
     try clear hcz30_0
     try clear hcz30_1
     try clear hcz30_2
     try clear hcz30_3
     try clear hcz32_0
     try clear hcz32_1
     try clear hcz32_2
     try clear hcz32_3
     try clear hcz37_0
     try clear hcz37_1
     try clear hcz37_2
     try clear hcz40_0
     try clear hcz40_1
     try clear hcz40_2
     try clear hcz40_3
     try clear hcz46_0
     try clear hcz46_1
     try clear hcz46_2
     try clear hcz58_0
     try clear hcz58_1
     try clear hcz58_2
     try clear hcz61_0
     try clear hcz61_1
     try clear hcz61_2
     try clear hcz66_0
     try clear hcz66_1
     try clear hcz66_2
     try clear hcz69_0
     try clear hcz69_1
     try clear hcz69_2
     try clear hcz6_0
     try clear hcz6_1
     try clear hcz6_2
     try clear hcz6_3
     try clear hfz17_0
     try clear hfz17_1
     try clear hfz17_2
     try clear hfz17_3
     try clear hfz19_0
     try clear hfz19_1
     try clear hfz19_2
     try clear hfz19_3
     try clear hfz24_0
     try clear hfz24_1
     try clear hfz24_2
     try clear hfz24_3
     try clear hfz26_0
     try clear hfz26_1
     try clear hfz26_2
     try clear hfz26_3
     try clear hfz28_0
     try clear hfz28_1
     try clear hfz28_2
     try clear hfz28_3
     try clear hfz30_0
     try clear hfz30_1
     try clear hfz30_2
     try clear hfz30_3
     try clear hfz32_0
     try clear hfz32_1
     try clear hfz32_2
     try clear hfz32_3
     try clear hfz37_0
     try clear hfz37_1
     try clear hfz37_2
     try clear hfz40_0
     try clear hfz40_1
     try clear hfz40_2
     try clear hfz40_3
     try clear hfz46_0
     try clear hfz46_1
     try clear hfz46_2
     try clear hfz58_0
     try clear hfz58_1
     try clear hfz58_2
     try clear hfz61_0
     try clear hfz61_1
     try clear hfz61_2
     try clear hfz66_0
     try clear hfz66_1
     try clear hfz66_2
     try clear hfz69_0
     try clear hfz69_1
     try clear hfz69_2
     try clear hfz6_0
     try clear hfz6_1
     try clear hfz6_2
     try clear hfz6_3
     try clear p2
     obtain ⟨x19_2, x280001_2, x280002_2, x289001_2, x289002_2, u280001, u280002, u289001, u289002, rfl, HA, HK2, HO_263000, HO_280001, HO_280002, HO_289001, HO_289002, BK254, BK262, BK279, BK288, HB⟩ := hrel
     cases gk with
     | zero => exact absurd HA.out (by simp [millhandlaw18_PickTells.l0])
     | succ k2 =>
      have H := HA.out
      clear HA
      simp only [millhandlaw18_PickTells.l0] at H
      by_cases c71 : x19_2 < (x280001_2.length : Int)
      ·
       rw [if_pos c71] at H
       have c71b0 : decide (x19_2 < (x280001_2.length : Int)) = true := decide_eq_true c71
       clear c71
       by_cases c72 : 0 ≤ x19_2
       ·
        rw [if_pos c72] at H
        have c72b0 : decide (0 ≤ x19_2) = true := decide_eq_true c72
        clear c72
        obtain ⟨y290, hy290⟩ : ∃ y_ : List (S28), y_ = (x280001_2.set (x19_2 : Int).toNat (⟨(⟨#[119, 114, 105, 116, 116, 101, 110, 32, 111, 118, 101, 114]⟩ : ByteArray), (rd_T28 x280001_2 x19_2).f1, (rd_T28 x280001_2 x19_2).f2, (rd_T28 x280001_2 x19_2).f3, (rd_T28 x280001_2 x19_2).f4⟩ : S28)) := ⟨_, rfl⟩
        replace H : (millhandlaw18_PickTells.l0 k2 x18_14 (wrap64 (x19_2 + 1)) l0_0 a0_1 a0_2 a0_3 t256 t259 t260 t261 t271 y290 x280002_2) = some r := by first | (rw [hy290]; with_reducible exact H) | (have H2_ := (Option.bind_some _ _).symm.trans H; rw [hy290]; with_reducible exact H2_) | (have H2_ := (Option.bind_some _ _).symm.trans H; with_reducible exact H2_) | with_reducible exact H | (rw [hy290]; exact H) | exact H
        have Ny290 := Aside0.mk hy290
        clear hy290
        have H' := Aside0.mk H
        clear H
        have hnb74 := NB279_254.out
        have hnc74 := NB254_279.out
        have hnb75 := NB279_262.out
        have hnc75 := NB262_279.out
        have hnb76 := NB279_288.out
        have hnc76 := NB288_279.out
        have hcz77_0 : wr.cell? ⟨gb279, 0, none⟩ = some (.int .i64 t271) := (blk_cell BK279.out 0).trans rfl
        have hcz77_1 : wr.cell? ⟨gb279, 1, none⟩ = some (u280001) := (blk_cell BK279.out 1).trans rfl
        have hcz77_2 : wr.cell? ⟨gb279, 2, none⟩ = some (u280002) := (blk_cell BK279.out 2).trans rfl
        have hfz77_0 := blk_frozen BK279.out 0
        have hfz77_1 := blk_frozen BK279.out 1
        have hfz77_2 := blk_frozen BK279.out 2
        obtain ⟨Ao78, co78, eo78⟩ := Kc.R_slice HO_280001.out
        subst eo78
        have p73 : 0 ≤ (x19_2 : Int) := of_decide_eq_true (by first | (with_reducible assumption) | assumption)
        have q73 : (x19_2 : Int) < ((x280001_2.length : Int) : Int) := of_decide_eq_true (by first | (with_reducible assumption) | assumption)
        obtain ⟨go73, co73, eo73, gb73, gl73, cl73, HG73⟩ := Kc.R_form HO_280001.out (by omega)
        (first | cases eo73 | (injection eo73 with ea_ en_ ec_; (first | subst ea_ | (injection ea_ with ea_; subst ea_)); subst ec_; clear en_))
        have GB73 := Aside0.mk gb73
        have GG73 := Aside0.mk HG73
        clear gb73 gl73 HG73
        obtain ⟨ce73, hcl73, hM73, hcc73, hfr73⟩ := Kc.R_elem HO_280001.out z28 (x19_2 : Int) p73 q73
        obtain rfl := k28_openM hM73
        have hx73_0 : wr.cell? ⟨go73, (x19_2 : Int).toNat * 5, none⟩ = some (.string ((rd_T28 x280001_2 x19_2).f0)) := hcc73 0 _ rfl
        have hx73_1 : wr.cell? ⟨go73, (x19_2 : Int).toNat * 5 + 1, none⟩ = some (.int .i64 ((rd_T28 x280001_2 x19_2).f1)) := hcc73 1 _ rfl
        have hx73_2 : wr.cell? ⟨go73, (x19_2 : Int).toNat * 5 + 2, none⟩ = some (.int .i64 ((rd_T28 x280001_2 x19_2).f2)) := hcc73 2 _ rfl
        have hx73_3 : wr.cell? ⟨go73, (x19_2 : Int).toNat * 5 + 3, none⟩ = some (.string ((rd_T28 x280001_2 x19_2).f3)) := hcc73 3 _ rfl
        have hx73_4 : wr.cell? ⟨go73, (x19_2 : Int).toNat * 5 + 4, none⟩ = some (.string ((rd_T28 x280001_2 x19_2).f4)) := hcc73 4 _ rfl
        have hf73_0 : wr.frozen? ⟨go73, (x19_2 : Int).toNat * 5, none⟩ = false := hfr73 0
        have hf73_1 : wr.frozen? ⟨go73, (x19_2 : Int).toNat * 5 + 1, none⟩ = false := hfr73 1
        have hf73_2 : wr.frozen? ⟨go73, (x19_2 : Int).toNat * 5 + 2, none⟩ = false := hfr73 2
        have hf73_3 : wr.frozen? ⟨go73, (x19_2 : Int).toNat * 5 + 3, none⟩ = false := hfr73 3
        have hf73_4 : wr.frozen? ⟨go73, (x19_2 : Int).toNat * 5 + 4, none⟩ = false := hfr73 4
        (try clear hM73); clear hcl73 hcc73 hfr73
        replace p73 := eq_true p73
        replace q73 := eq_true q73
        have HX79 := Aside0.mk (show Kc.R k28 28 wr w.heap.size (fun k_ => some k_ ≠ (u280002 : Value).ownBlock ∧ some k_ ≠ (u289001 : Value).ownBlock ∧ some k_ ≠ (u289002 : Value).ownBlock) (.slice (some ⟨go73, 0, none⟩) x280001_2.length co78) x280001_2 from (by (with_reducible repeat (first | apply Kc.R_alloc | apply Kc.R_drewN | apply Kc.R_drew)); exact HO_280001.out))
        obtain ⟨ce79, hcl79, hM79, hcc79, hfr79⟩ := Kc.R_elem HX79.out z28 (x19_2 : Int) (of_decide_eq_true (by first | (with_reducible assumption) | assumption)) (by have h_ : (x19_2 : Int) < ((x280001_2.length : Int) : Int) := of_decide_eq_true (by first | (with_reducible assumption) | assumption); first | exact h_ | (have e_ := (Kc.R_reads' HO_280001.out).1; omega) | simpa using h_)
        obtain rfl := k28_openM hM79
        have HP79 := Kc.R_seg HX79.out (x19_2 : Int) (of_decide_eq_true (by first | (with_reducible assumption) | assumption)) (by have h_ : (x19_2 : Int) < ((x280001_2.length : Int) : Int) := of_decide_eq_true (by first | (with_reducible assumption) | assumption); first | exact h_ | (have e_ := (Kc.R_reads' HO_280001.out).1; omega) | simpa using h_) (seg := [.string (⟨#[119, 114, 105, 116, 116, 101, 110, 32, 111, 118, 101, 114]⟩ : ByteArray)]) (j := 0) hcl79 hcc79 (show 1 ≤ 5 from by decide) (x' := (⟨(⟨#[119, 114, 105, 116, 116, 101, 110, 32, 111, 118, 101, 114]⟩ : ByteArray), (rd_T28 x280001_2 x19_2).f1, (rd_T28 x280001_2 x19_2).f2, (rd_T28 x280001_2 x19_2).f3, (rd_T28 x280001_2 x19_2).f4⟩ : S28)) (k28_mkM _ _ _ (⟨(⟨#[119, 114, 105, 116, 116, 101, 110, 32, 111, 118, 101, 114]⟩ : ByteArray), (rd_T28 x280001_2 x19_2).f1, (rd_T28 x280001_2 x19_2).f2, (rd_T28 x280001_2 x19_2).f3, (rd_T28 x280001_2 x19_2).f4⟩ : S28) ) (fun _ hk => hk)
        have hx79_0 := hcc79 0 _ rfl
        (try simp only [show (k28).sz = 5 from rfl, Nat.mul_one, Nat.add_zero] at hx79_0)
        have hf79_0 := hfr79 0
        (try simp only [show (k28).sz = 5 from rfl, Nat.mul_one, Nat.add_zero] at hf79_0)
        (try clear hM79); clear hcl79 hcc79 hfr79
        go_wp2_with (first | ((with_reducible refine gate_store (t := 9) (p := 96) rfl ?_); refine store_event (t := 9) (p := 96) (v := ?vo_w80) (w1 := (wr.setCell ⟨go73, (x19_2 : Int).toNat * 5, none⟩ (.string (⟨#[119, 114, 105, 116, 116, 101, 110, 32, 111, 118, 101, 114]⟩ : ByteArray)))) ?hg ?ho ?hn ?hr ?_; (case ho => rfl); (case hg => rfl); (case hn => rfl); (case hr => first | (go_simp; done) | (go_simp; rfl)); intro w80 hw; have hg : wr.grownBy w80 (some go73) := (by rw [hw]; exact HP79.2); have hp_ : Kc.R k28 28 w80 w.heap.size (fun k_ => some k_ ≠ (u280002 : Value).ownBlock ∧ some k_ ≠ (u289001 : Value).ownBlock ∧ some k_ ≠ (u289002 : Value).ownBlock) (.slice (some ⟨go73, 0, none⟩) x280001_2.length co78) y290 := (by rw [hw, Ny290.out]; exact HP79.1); clear HP79; have n0_ := Aside0.mk (Kd.S_after (v := (.slice (some ⟨go73, 0, none⟩) x280001_2.length co78)) (v1 := (.slice (some ⟨go73, 0, none⟩) x280001_2.length co78)) (ok := (fun k_ => some k_ ≠ (u280002 : Value).ownBlock ∧ some k_ ≠ (u289001 : Value).ownBlock ∧ some k_ ≠ (u289002 : Value).ownBlock)) (by (with_reducible repeat (first | apply Kd.S_alloc | apply Kd.S_drewN | apply Kd.S_drew)); exact Kd.S_mono HO_263000.out (fun _ hk => ⟨⟨hk.2.1, ⟨hk.2.2.1, hk.2.2.2⟩⟩, hk.1⟩)) hg (.inl rfl)); have n1_ := Aside0.mk (hp_); have n2_ := Aside0.mk (Kc.R_after (v := (.slice (some ⟨go73, 0, none⟩) x280001_2.length co78)) (v1 := (.slice (some ⟨go73, 0, none⟩) x280001_2.length co78)) (ok := (fun k_ => some k_ ≠ (u289001 : Value).ownBlock ∧ some k_ ≠ (u289002 : Value).ownBlock)) (by (with_reducible repeat (first | apply Kc.R_alloc | apply Kc.R_drewN | apply Kc.R_drew)); exact Kc.R_mono HO_280002.out (fun _ hk => ⟨⟨hk.2.1, hk.2.2⟩, hk.1⟩)) hg (.inl rfl)); have n3_ := Aside0.mk (Kc.R_after (v := (.slice (some ⟨go73, 0, none⟩) x280001_2.length co78)) (v1 := (.slice (some ⟨go73, 0, none⟩) x280001_2.length co78)) (ok := (fun k_ => some k_ ≠ (u280002 : Value).ownBlock ∧ some k_ ≠ (u289002 : Value).ownBlock)) (by (with_reducible repeat (first | apply Kc.R_alloc | apply Kc.R_drewN | apply Kc.R_drew)); exact Kc.R_mono HO_289001.out (fun _ hk => ⟨⟨hk.2.1, hk.2.2⟩, hk.1⟩)) hg (.inl rfl)); have n4_ := Aside0.mk (Kc.R_after (v := (.slice (some ⟨go73, 0, none⟩) x280001_2.length co78)) (v1 := (.slice (some ⟨go73, 0, none⟩) x280001_2.length co78)) (ok := (fun k_ => some k_ ≠ (u280002 : Value).ownBlock ∧ some k_ ≠ (u289001 : Value).ownBlock)) (by (with_reducible repeat (first | apply Kc.R_alloc | apply Kc.R_drewN | apply Kc.R_drew)); exact Kc.R_mono HO_289002.out (fun _ hk => ⟨⟨hk.2.1, hk.2.2⟩, hk.1⟩)) hg (.inl rfl)); have n5_ := Aside0.mk (blk_grown (g := gb254) (o := .cells #[.slice A0_0 l0_0.length c0_0, .int .i64 a0_1, .int .i64 a0_2, .string a0_3] 24 (0, 0)) (by (with_reducible repeat (first | refine blk_drewN ?_ _ | refine blk_drew ?_ | refine blk_alloc ?_ _)); exact BK254.out) hg (Kc.R_ne HO_280001.out BK254.out (by decide))); have n6_ := Aside0.mk (blk_grown (g := gb262) (o := .cells #[.slice Ao22 t256.length co22, .int .i64 t259, .int .i64 t260, .string t261] 24 (0, 0)) (by (with_reducible repeat (first | refine blk_drewN ?_ _ | refine blk_drew ?_ | refine blk_alloc ?_ _)); exact BK262.out) hg (Kc.R_ne HO_280001.out BK262.out (by decide))); have n7_ := Aside0.mk (blk_grown (g := gb279) (o := .cells #[.int .i64 t271, .slice (some ⟨go73, 0, none⟩) x280001_2.length co78, u280002] 31 (0, 0)) (by (with_reducible repeat (first | refine blk_drewN ?_ _ | refine blk_drew ?_ | refine blk_alloc ?_ _)); exact BK279.out) hg (Kc.R_ne HO_280001.out BK279.out (by decide))); have n8_ := Aside0.mk (blk_grown (g := gb288) (o := .cells #[.int .i64 t280, u289001, u289002] 31 (0, 0)) (by (with_reducible repeat (first | refine blk_drewN ?_ _ | refine blk_drew ?_ | refine blk_alloc ?_ _)); exact BK288.out) hg (Kc.R_ne HO_280001.out BK288.out (by decide))); have n9_ := Aside0.mk ((by rw [hw]; exact below_set (HB.out) GB73.out : Below w.heap.size w w80)); clear HO_263000; clear HO_280001; clear HO_280002; clear HO_289001; clear HO_289002; clear BK254; clear BK262; clear BK279; clear BK288; clear HB; have HO_263000 := n0_; have HO_280001 := n1_; have HO_280002 := n2_; have HO_289001 := n3_; have HO_289002 := n4_; have BK254 := n5_; have BK262 := n6_; have BK279 := n7_; have BK288 := n8_; have HB := n9_; clear n0_ n1_ n2_ n3_ n4_ n5_ n6_ n7_ n8_ n9_; clear hg hw hp_))
        go_roundg k2
        case measure => have := HJ14.out; have := HK2.out; omega
        case rel => exact ⟨(wrap64 (x19_2 + 1)), (y290), (x280002_2), (x289001_2), (x289002_2), (.slice (some ⟨go73, 0, none⟩) x280001_2.length co78), (u280002), (u289001), (u289002), (by first | rfl | (simp; done) | (simp [*]; done)), H', ⟨by have := HJ14.out; have := HK2.out; omega⟩, ⟨by (with_reducible repeat (first | apply Kd.S_alloc | apply Kd.S_drewN | apply Kd.S_drew)); exact Kd.S_mono HO_263000.out (fun _ hk => ⟨hk.2, ⟨hk.1.1, ⟨hk.1.2.1, hk.1.2.2⟩⟩⟩)⟩, ⟨by (with_reducible repeat (first | apply Kc.R_alloc | apply Kc.R_drewN | apply Kc.R_drew)); exact HO_280001.out⟩, ⟨by (with_reducible repeat (first | apply Kc.R_alloc | apply Kc.R_drewN | apply Kc.R_drew)); exact Kc.R_mono HO_280002.out (fun _ hk => ⟨hk.2, ⟨hk.1.1, hk.1.2⟩⟩)⟩, ⟨by (with_reducible repeat (first | apply Kc.R_alloc | apply Kc.R_drewN | apply Kc.R_drew)); exact Kc.R_mono HO_289001.out (fun _ hk => ⟨hk.2, ⟨hk.1.1, hk.1.2⟩⟩)⟩, ⟨by (with_reducible repeat (first | apply Kc.R_alloc | apply Kc.R_drewN | apply Kc.R_drew)); exact Kc.R_mono HO_289002.out (fun _ hk => ⟨hk.2, ⟨hk.1.1, hk.1.2⟩⟩)⟩, ⟨by (with_reducible repeat (first | refine blk_drewN ?_ _ | refine blk_drew ?_ | refine blk_alloc ?_ _)); exact BK254.out⟩, ⟨by (with_reducible repeat (first | refine blk_drewN ?_ _ | refine blk_drew ?_ | refine blk_alloc ?_ _)); exact BK262.out⟩, ⟨by (with_reducible repeat (first | refine blk_drewN ?_ _ | refine blk_drew ?_ | refine blk_alloc ?_ _)); exact BK279.out⟩, ⟨by (with_reducible repeat (first | refine blk_drewN ?_ _ | refine blk_drew ?_ | refine blk_alloc ?_ _)); exact BK288.out⟩, ⟨by repeat (first | (with_reducible first | exact HB.out | apply below_alloc | apply pw_below_drewN | apply below_drew1 | refine below_set ?_ GE254.out | refine below_set ?_ GE262.out | refine below_set ?_ GE279.out | refine below_set ?_ GE288.out) | exact HB.out)⟩⟩
       ·
        rw [if_neg c72] at H
        exact absurd H (by simp)
      ·
       rw [if_neg c71] at H
       have c71b0 : decide (x19_2 < (x280001_2.length : Int)) = false := decide_eq_false c71
       clear c71
       have H' := Aside0.mk H
       clear H
       have hnb81 := NB279_254.out
       have hnc81 := NB254_279.out
       have hnb82 := NB279_262.out
       have hnc82 := NB262_279.out
       have hnb83 := NB279_288.out
       have hnc83 := NB288_279.out
       have hcz84_0 : wr.cell? ⟨gb279, 0, none⟩ = some (.int .i64 t271) := (blk_cell BK279.out 0).trans rfl
       have hcz84_1 : wr.cell? ⟨gb279, 1, none⟩ = some (u280001) := (blk_cell BK279.out 1).trans rfl
       have hcz84_2 : wr.cell? ⟨gb279, 2, none⟩ = some (u280002) := (blk_cell BK279.out 2).trans rfl
       have hfz84_0 := blk_frozen BK279.out 0
       have hfz84_1 := blk_frozen BK279.out 1
       have hfz84_2 := blk_frozen BK279.out 2
       obtain ⟨Ao85, co85, eo85⟩ := Kc.R_slice HO_280001.out
       subst eo85
       go_wp2
       go_loopg [20] k2 (fun kq v20 w' => ∃ (x20_3 : Int) (x280001_3 : List (S28)) (x280002_3 : List (S28)) (x289001_3 : List (S28)) (x289002_3 : List (S28)) (u280001 : Value) (u280002 : Value) (u289001 : Value) (u289002 : Value), v20 = .int .i64 x20_3 ∧ Aside0 (millhandlaw18_PickTells.l1 kq x18_14 x20_3 l0_0 a0_1 a0_2 a0_3 t256 t259 t260 t261 t271 x280001_3 x280002_3 = some r) ∧ Aside0 (kq ≤ k2) ∧ Aside0 (Kd.S (Kd.slice 28 k28) 26 w' w.heap.size (fun k_ => some k_ ≠ (u280001 : Value).ownBlock ∧ some k_ ≠ (u280002 : Value).ownBlock ∧ some k_ ≠ (u289001 : Value).ownBlock ∧ some k_ ≠ (u289002 : Value).ownBlock) (.slice Ao22 t256.length co22) t256) ∧ Aside0 (Kc.R k28 28 w' w.heap.size (fun k_ => some k_ ≠ (u280002 : Value).ownBlock ∧ some k_ ≠ (u289001 : Value).ownBlock ∧ some k_ ≠ (u289002 : Value).ownBlock) u280001 x280001_3) ∧ Aside0 (Kc.R k28 28 w' w.heap.size (fun k_ => some k_ ≠ (u280001 : Value).ownBlock ∧ some k_ ≠ (u289001 : Value).ownBlock ∧ some k_ ≠ (u289002 : Value).ownBlock) u280002 x280002_3) ∧ Aside0 (Kc.R k28 28 w' w.heap.size (fun k_ => some k_ ≠ (u280001 : Value).ownBlock ∧ some k_ ≠ (u280002 : Value).ownBlock ∧ some k_ ≠ (u289002 : Value).ownBlock) u289001 x289001_3) ∧ Aside0 (Kc.R k28 28 w' w.heap.size (fun k_ => some k_ ≠ (u280001 : Value).ownBlock ∧ some k_ ≠ (u280002 : Value).ownBlock ∧ some k_ ≠ (u289001 : Value).ownBlock) u289002 x289002_3) ∧ Aside0 (w'.heap[gb254]? = some (.cells #[(.slice A0_0 l0_0.length c0_0), .int .i64 a0_1, .int .i64 a0_2, .string a0_3] 24 (0, 0))) ∧ Aside0 (w'.heap[gb262]? = some (.cells #[(.slice Ao22 t256.length co22), .int .i64 t259, .int .i64 t260, .string t261] 24 (0, 0))) ∧ Aside0 (w'.heap[gb279]? = some (.cells #[.int .i64 t271, u280001, u280002] 31 (0, 0))) ∧ Aside0 (w'.heap[gb288]? = some (.cells #[.int .i64 t280, u289001, u289002] 31 (0, 0))) ∧ Aside0 (Below w.heap.size w w'))
       case atStart => exact ⟨(0), (x280001_2), (x280002_2), (x289001_2), (x289002_2), (.slice Ao85 x280001_2.length co85), (u280002), (u289001), (u289002), (by first | rfl | (simp; done) | (simp [*]; done)), H', ⟨Nat.le_refl _⟩, ⟨by (with_reducible repeat (first | apply Kd.S_alloc | apply Kd.S_drewN | apply Kd.S_drew)); exact HO_263000.out⟩, ⟨by (with_reducible repeat (first | apply Kc.R_alloc | apply Kc.R_drewN | apply Kc.R_drew)); exact HO_280001.out⟩, ⟨by (with_reducible repeat (first | apply Kc.R_alloc | apply Kc.R_drewN | apply Kc.R_drew)); exact HO_280002.out⟩, ⟨by (with_reducible repeat (first | apply Kc.R_alloc | apply Kc.R_drewN | apply Kc.R_drew)); exact HO_289001.out⟩, ⟨by (with_reducible repeat (first | apply Kc.R_alloc | apply Kc.R_drewN | apply Kc.R_drew)); exact HO_289002.out⟩, ⟨by (with_reducible repeat (first | refine blk_drewN ?_ _ | refine blk_drew ?_ | refine blk_alloc ?_ _)); exact BK254.out⟩, ⟨by (with_reducible repeat (first | refine blk_drewN ?_ _ | refine blk_drew ?_ | refine blk_alloc ?_ _)); exact BK262.out⟩, ⟨by (with_reducible repeat (first | refine blk_drewN ?_ _ | refine blk_drew ?_ | refine blk_alloc ?_ _)); exact BK279.out⟩, ⟨by (with_reducible repeat (first | refine blk_drewN ?_ _ | refine blk_drew ?_ | refine blk_alloc ?_ _)); exact BK288.out⟩, ⟨by repeat (first | (with_reducible first | exact HB.out | apply below_alloc | apply pw_below_drewN | apply below_drew1 | refine below_set ?_ GE254.out | refine below_set ?_ GE262.out | refine below_set ?_ GE279.out | refine below_set ?_ GE288.out) | exact HB.out)⟩⟩
       case round =>
        clear H'
        try clear c1
        try clear c2
        try clear p2
        try clear c3
        try clear c4
        try clear c5
        try clear c6
        try clear p6
        try clear c7
        try clear p7
        try clear q7
        try clear hx7
        try clear hf7
        try clear c8
        try clear c9
        try clear c10
        try clear c12
        try clear c13
        try clear c14
        try clear c15
        try clear c16
        try clear c23
        try clear c35
        try clear c36
        try clear c43
        try clear c44
        try clear c45
        try clear c49
        try clear c49b0
        try clear c49b1
        try clear c50
        try clear c50b0
        try clear c50b1
        try clear c51
        try clear c51b0
        try clear c51b1
        try clear c51b2
        try clear c52
        try clear c52b0
        try clear c52b1
        try clear c54
        try clear c55
        try clear c56
        try clear c57
        try clear c59
        try clear c60
        try clear c63
        try clear c64
        try clear p64
        try clear c65
        try clear c67
        try clear c68
        try clear c71
        try clear c71b0
        try clear c72
        try clear c72b0
        try clear c73
        try clear p73
        try clear q73
        try clear hx73
        try clear hf73
        try clear c74
        try clear c75
        try clear c76
        try clear c79
        try clear hx79
        try clear hf79
        try clear c81
        try clear c82
        try clear c83
        try clear hcz17_0
        try clear hcz17_1
        try clear hcz17_2
        try clear hcz17_3
        try clear hcz19_0
        try clear hcz19_1
        try clear hcz19_2
        try clear hcz19_3
        try clear hcz24_0
        try clear hcz24_1
        try clear hcz24_2
        try clear hcz24_3
        try clear hcz26_0
        try clear hcz26_1
        try clear hcz26_2
        try clear hcz26_3
        try clear hcz28_0
        try clear hcz28_1
        try clear hcz28_2
        try clear hcz28_3
        try clear hcz30_0
        try clear hcz30_1
        try clear hcz30_2
        try clear hcz30_3
        try clear hcz32_0
        try clear hcz32_1
        try clear hcz32_2
        try clear hcz32_3
        try clear hcz37_0
        try clear hcz37_1
        try clear hcz37_2
        try clear hcz40_0
        try clear hcz40_1
        try clear hcz40_2
        try clear hcz40_3
        try clear hcz46_0
        try clear hcz46_1
        try clear hcz46_2
        try clear hcz58_0
        try clear hcz58_1
        try clear hcz58_2
        try clear hcz61_0
        try clear hcz61_1
        try clear hcz61_2
        try clear hcz66_0
        try clear hcz66_1
        try clear hcz66_2
        try clear hcz69_0
        try clear hcz69_1
        try clear hcz69_2
        try clear hcz6_0
        try clear hcz6_1
        try clear hcz6_2
        try clear hcz6_3
        try clear hcz77_0
        try clear hcz77_1
        try clear hcz77_2
        try clear hcz84_0
        try clear hcz84_1
        try clear hcz84_2
        try clear hfz17_0
        try clear hfz17_1
        try clear hfz17_2
        try clear hfz17_3
        try clear hfz19_0
        try clear hfz19_1
        try clear hfz19_2
        try clear hfz19_3
        try clear hfz24_0
        try clear hfz24_1
        try clear hfz24_2
        try clear hfz24_3
        try clear hfz26_0
        try clear hfz26_1
        try clear hfz26_2
        try clear hfz26_3
        try clear hfz28_0
        try clear hfz28_1
        try clear hfz28_2
        try clear hfz28_3
        try clear hfz30_0
        try clear hfz30_1
        try clear hfz30_2
        try clear hfz30_3
        try clear hfz32_0
        try clear hfz32_1
        try clear hfz32_2
        try clear hfz32_3
        try clear hfz37_0
        try clear hfz37_1
        try clear hfz37_2
        try clear hfz40_0
        try clear hfz40_1
        try clear hfz40_2
        try clear hfz40_3
        try clear hfz46_0
        try clear hfz46_1
        try clear hfz46_2
        try clear hfz58_0
        try clear hfz58_1
        try clear hfz58_2
        try clear hfz61_0
        try clear hfz61_1
        try clear hfz61_2
        try clear hfz66_0
        try clear hfz66_1
        try clear hfz66_2
        try clear hfz69_0
        try clear hfz69_1
        try clear hfz69_2
        try clear hfz6_0
        try clear hfz6_1
        try clear hfz6_2
        try clear hfz6_3
        try clear hfz77_0
        try clear hfz77_1
        try clear hfz77_2
        try clear hfz84_0
        try clear hfz84_1
        try clear hfz84_2
        try clear hx73_0
        try clear hx73_1
        try clear hx73_2
        try clear hx73_3
        try clear hx73_4
        try clear hx79_0
        try clear p2
        try clear p73
        try clear q73
        obtain ⟨x20_3, x280001_3, x280002_3, x289001_3, x289002_3, u280001, u280002, u289001, u289002, rfl, HA, HK3, HO_263000, HO_280001, HO_280002, HO_289001, HO_289002, BK254, BK262, BK279, BK288, HB⟩ := hrel
        cases gk with
        | zero => exact absurd HA.out (by simp [millhandlaw18_PickTells.l1])
        | succ k3 =>
         have H := HA.out
         clear HA
         simp only [millhandlaw18_PickTells.l1] at H
         by_cases c86 : x20_3 < (x280002_3.length : Int)
         ·
          rw [if_pos c86] at H
          have c86b0 : decide (x20_3 < (x280002_3.length : Int)) = true := decide_eq_true c86
          clear c86
          by_cases c87 : 0 ≤ x20_3
          ·
           rw [if_pos c87] at H
           have c87b0 : decide (0 ≤ x20_3) = true := decide_eq_true c87
           clear c87
           obtain ⟨y291, hy291⟩ : ∃ y_ : List (S28), y_ = (x280002_3.set (x20_3 : Int).toNat (⟨(⟨#[119, 114, 105, 116, 116, 101, 110, 32, 111, 118, 101, 114]⟩ : ByteArray), (rd_T28 x280002_3 x20_3).f1, (rd_T28 x280002_3 x20_3).f2, (rd_T28 x280002_3 x20_3).f3, (rd_T28 x280002_3 x20_3).f4⟩ : S28)) := ⟨_, rfl⟩
           replace H : (millhandlaw18_PickTells.l1 k3 x18_14 (wrap64 (x20_3 + 1)) l0_0 a0_1 a0_2 a0_3 t256 t259 t260 t261 t271 x280001_3 y291) = some r := by first | (rw [hy291]; with_reducible exact H) | (have H2_ := (Option.bind_some _ _).symm.trans H; rw [hy291]; with_reducible exact H2_) | (have H2_ := (Option.bind_some _ _).symm.trans H; with_reducible exact H2_) | with_reducible exact H | (rw [hy291]; exact H) | exact H
           have Ny291 := Aside0.mk hy291
           clear hy291
           have H' := Aside0.mk H
           clear H
           have hnb89 := NB279_254.out
           have hnc89 := NB254_279.out
           have hnb90 := NB279_262.out
           have hnc90 := NB262_279.out
           have hnb91 := NB279_288.out
           have hnc91 := NB288_279.out
           have hcz92_0 : wr.cell? ⟨gb279, 0, none⟩ = some (.int .i64 t271) := (blk_cell BK279.out 0).trans rfl
           have hcz92_1 : wr.cell? ⟨gb279, 1, none⟩ = some (u280001) := (blk_cell BK279.out 1).trans rfl
           have hcz92_2 : wr.cell? ⟨gb279, 2, none⟩ = some (u280002) := (blk_cell BK279.out 2).trans rfl
           have hfz92_0 := blk_frozen BK279.out 0
           have hfz92_1 := blk_frozen BK279.out 1
           have hfz92_2 := blk_frozen BK279.out 2
           obtain ⟨Ao93, co93, eo93⟩ := Kc.R_slice HO_280002.out
           subst eo93
           have p88 : 0 ≤ (x20_3 : Int) := of_decide_eq_true (by first | (with_reducible assumption) | assumption)
           have q88 : (x20_3 : Int) < ((x280002_3.length : Int) : Int) := of_decide_eq_true (by first | (with_reducible assumption) | assumption)
           obtain ⟨go88, co88, eo88, gb88, gl88, cl88, HG88⟩ := Kc.R_form HO_280002.out (by omega)
           (first | cases eo88 | (injection eo88 with ea_ en_ ec_; (first | subst ea_ | (injection ea_ with ea_; subst ea_)); subst ec_; clear en_))
           have GB88 := Aside0.mk gb88
           have GG88 := Aside0.mk HG88
           clear gb88 gl88 HG88
           obtain ⟨ce88, hcl88, hM88, hcc88, hfr88⟩ := Kc.R_elem HO_280002.out z28 (x20_3 : Int) p88 q88
           obtain rfl := k28_openM hM88
           have hx88_0 : wr.cell? ⟨go88, (x20_3 : Int).toNat * 5, none⟩ = some (.string ((rd_T28 x280002_3 x20_3).f0)) := hcc88 0 _ rfl
           have hx88_1 : wr.cell? ⟨go88, (x20_3 : Int).toNat * 5 + 1, none⟩ = some (.int .i64 ((rd_T28 x280002_3 x20_3).f1)) := hcc88 1 _ rfl
           have hx88_2 : wr.cell? ⟨go88, (x20_3 : Int).toNat * 5 + 2, none⟩ = some (.int .i64 ((rd_T28 x280002_3 x20_3).f2)) := hcc88 2 _ rfl
           have hx88_3 : wr.cell? ⟨go88, (x20_3 : Int).toNat * 5 + 3, none⟩ = some (.string ((rd_T28 x280002_3 x20_3).f3)) := hcc88 3 _ rfl
           have hx88_4 : wr.cell? ⟨go88, (x20_3 : Int).toNat * 5 + 4, none⟩ = some (.string ((rd_T28 x280002_3 x20_3).f4)) := hcc88 4 _ rfl
           have hf88_0 : wr.frozen? ⟨go88, (x20_3 : Int).toNat * 5, none⟩ = false := hfr88 0
           have hf88_1 : wr.frozen? ⟨go88, (x20_3 : Int).toNat * 5 + 1, none⟩ = false := hfr88 1
           have hf88_2 : wr.frozen? ⟨go88, (x20_3 : Int).toNat * 5 + 2, none⟩ = false := hfr88 2
           have hf88_3 : wr.frozen? ⟨go88, (x20_3 : Int).toNat * 5 + 3, none⟩ = false := hfr88 3
           have hf88_4 : wr.frozen? ⟨go88, (x20_3 : Int).toNat * 5 + 4, none⟩ = false := hfr88 4
           (try clear hM88); clear hcl88 hcc88 hfr88
           replace p88 := eq_true p88
           replace q88 := eq_true q88
           have HX94 := Aside0.mk (show Kc.R k28 28 wr w.heap.size (fun k_ => some k_ ≠ (u280001 : Value).ownBlock ∧ some k_ ≠ (u289001 : Value).ownBlock ∧ some k_ ≠ (u289002 : Value).ownBlock) (.slice (some ⟨go88, 0, none⟩) x280002_3.length co93) x280002_3 from (by (with_reducible repeat (first | apply Kc.R_alloc | apply Kc.R_drewN | apply Kc.R_drew)); exact HO_280002.out))
           obtain ⟨ce94, hcl94, hM94, hcc94, hfr94⟩ := Kc.R_elem HX94.out z28 (x20_3 : Int) (of_decide_eq_true (by first | (with_reducible assumption) | assumption)) (by have h_ : (x20_3 : Int) < ((x280002_3.length : Int) : Int) := of_decide_eq_true (by first | (with_reducible assumption) | assumption); first | exact h_ | (have e_ := (Kc.R_reads' HO_280002.out).1; omega) | simpa using h_)
           obtain rfl := k28_openM hM94
           have HP94 := Kc.R_seg HX94.out (x20_3 : Int) (of_decide_eq_true (by first | (with_reducible assumption) | assumption)) (by have h_ : (x20_3 : Int) < ((x280002_3.length : Int) : Int) := of_decide_eq_true (by first | (with_reducible assumption) | assumption); first | exact h_ | (have e_ := (Kc.R_reads' HO_280002.out).1; omega) | simpa using h_) (seg := [.string (⟨#[119, 114, 105, 116, 116, 101, 110, 32, 111, 118, 101, 114]⟩ : ByteArray)]) (j := 0) hcl94 hcc94 (show 1 ≤ 5 from by decide) (x' := (⟨(⟨#[119, 114, 105, 116, 116, 101, 110, 32, 111, 118, 101, 114]⟩ : ByteArray), (rd_T28 x280002_3 x20_3).f1, (rd_T28 x280002_3 x20_3).f2, (rd_T28 x280002_3 x20_3).f3, (rd_T28 x280002_3 x20_3).f4⟩ : S28)) (k28_mkM _ _ _ (⟨(⟨#[119, 114, 105, 116, 116, 101, 110, 32, 111, 118, 101, 114]⟩ : ByteArray), (rd_T28 x280002_3 x20_3).f1, (rd_T28 x280002_3 x20_3).f2, (rd_T28 x280002_3 x20_3).f3, (rd_T28 x280002_3 x20_3).f4⟩ : S28) ) (fun _ hk => hk)
           have hx94_0 := hcc94 0 _ rfl
           (try simp only [show (k28).sz = 5 from rfl, Nat.mul_one, Nat.add_zero] at hx94_0)
           have hf94_0 := hfr94 0
           (try simp only [show (k28).sz = 5 from rfl, Nat.mul_one, Nat.add_zero] at hf94_0)
           (try clear hM94); clear hcl94 hcc94 hfr94
           go_wp2_with (first | ((with_reducible refine gate_store (t := 9) (p := 108) rfl ?_); refine store_event (t := 9) (p := 108) (v := ?vo_w95) (w1 := (wr.setCell ⟨go88, (x20_3 : Int).toNat * 5, none⟩ (.string (⟨#[119, 114, 105, 116, 116, 101, 110, 32, 111, 118, 101, 114]⟩ : ByteArray)))) ?hg ?ho ?hn ?hr ?_; (case ho => rfl); (case hg => rfl); (case hn => rfl); (case hr => first | (go_simp; done) | (go_simp; rfl)); intro w95 hw; have hg : wr.grownBy w95 (some go88) := (by rw [hw]; exact HP94.2); have hp_ : Kc.R k28 28 w95 w.heap.size (fun k_ => some k_ ≠ (u280001 : Value).ownBlock ∧ some k_ ≠ (u289001 : Value).ownBlock ∧ some k_ ≠ (u289002 : Value).ownBlock) (.slice (some ⟨go88, 0, none⟩) x280002_3.length co93) y291 := (by rw [hw, Ny291.out]; exact HP94.1); clear HP94; have n0_ := Aside0.mk (Kd.S_after (v := (.slice (some ⟨go88, 0, none⟩) x280002_3.length co93)) (v1 := (.slice (some ⟨go88, 0, none⟩) x280002_3.length co93)) (ok := (fun k_ => some k_ ≠ (u280001 : Value).ownBlock ∧ some k_ ≠ (u289001 : Value).ownBlock ∧ some k_ ≠ (u289002 : Value).ownBlock)) (by (with_reducible repeat (first | apply Kd.S_alloc | apply Kd.S_drewN | apply Kd.S_drew)); exact Kd.S_mono HO_263000.out (fun _ hk => ⟨⟨hk.1, ⟨hk.2.2.1, hk.2.2.2⟩⟩, hk.2.1⟩)) hg (.inl rfl)); have n1_ := Aside0.mk (Kc.R_after (v := (.slice (some ⟨go88, 0, none⟩) x280002_3.length co93)) (v1 := (.slice (some ⟨go88, 0, none⟩) x280002_3.length co93)) (ok := (fun k_ => some k_ ≠ (u289001 : Value).ownBlock ∧ some k_ ≠ (u289002 : Value).ownBlock)) (by (with_reducible repeat (first | apply Kc.R_alloc | apply Kc.R_drewN | apply Kc.R_drew)); exact Kc.R_mono HO_280001.out (fun _ hk => ⟨⟨hk.2.1, hk.2.2⟩, hk.1⟩)) hg (.inl rfl)); have n2_ := Aside0.mk (hp_); have n3_ := Aside0.mk (Kc.R_after (v := (.slice (some ⟨go88, 0, none⟩) x280002_3.length co93)) (v1 := (.slice (some ⟨go88, 0, none⟩) x280002_3.length co93)) (ok := (fun k_ => some k_ ≠ (u280001 : Value).ownBlock ∧ some k_ ≠ (u289002 : Value).ownBlock)) (by (with_reducible repeat (first | apply Kc.R_alloc | apply Kc.R_drewN | apply Kc.R_drew)); exact Kc.R_mono HO_289001.out (fun _ hk => ⟨⟨hk.1, hk.2.2⟩, hk.2.1⟩)) hg (.inl rfl)); have n4_ := Aside0.mk (Kc.R_after (v := (.slice (some ⟨go88, 0, none⟩) x280002_3.length co93)) (v1 := (.slice (some ⟨go88, 0, none⟩) x280002_3.length co93)) (ok := (fun k_ => some k_ ≠ (u280001 : Value).ownBlock ∧ some k_ ≠ (u289001 : Value).ownBlock)) (by (with_reducible repeat (first | apply Kc.R_alloc | apply Kc.R_drewN | apply Kc.R_drew)); exact Kc.R_mono HO_289002.out (fun _ hk => ⟨⟨hk.1, hk.2.2⟩, hk.2.1⟩)) hg (.inl rfl)); have n5_ := Aside0.mk (blk_grown (g := gb254) (o := .cells #[.slice A0_0 l0_0.length c0_0, .int .i64 a0_1, .int .i64 a0_2, .string a0_3] 24 (0, 0)) (by (with_reducible repeat (first | refine blk_drewN ?_ _ | refine blk_drew ?_ | refine blk_alloc ?_ _)); exact BK254.out) hg (Kc.R_ne HO_280002.out BK254.out (by decide))); have n6_ := Aside0.mk (blk_grown (g := gb262) (o := .cells #[.slice Ao22 t256.length co22, .int .i64 t259, .int .i64 t260, .string t261] 24 (0, 0)) (by (with_reducible repeat (first | refine blk_drewN ?_ _ | refine blk_drew ?_ | refine blk_alloc ?_ _)); exact BK262.out) hg (Kc.R_ne HO_280002.out BK262.out (by decide))); have n7_ := Aside0.mk (blk_grown (g := gb279) (o := .cells #[.int .i64 t271, u280001, .slice (some ⟨go88, 0, none⟩) x280002_3.length co93] 31 (0, 0)) (by (with_reducible repeat (first | refine blk_drewN ?_ _ | refine blk_drew ?_ | refine blk_alloc ?_ _)); exact BK279.out) hg (Kc.R_ne HO_280002.out BK279.out (by decide))); have n8_ := Aside0.mk (blk_grown (g := gb288) (o := .cells #[.int .i64 t280, u289001, u289002] 31 (0, 0)) (by (with_reducible repeat (first | refine blk_drewN ?_ _ | refine blk_drew ?_ | refine blk_alloc ?_ _)); exact BK288.out) hg (Kc.R_ne HO_280002.out BK288.out (by decide))); have n9_ := Aside0.mk ((by rw [hw]; exact below_set (HB.out) GB88.out : Below w.heap.size w w95)); clear HO_263000; clear HO_280001; clear HO_280002; clear HO_289001; clear HO_289002; clear BK254; clear BK262; clear BK279; clear BK288; clear HB; have HO_263000 := n0_; have HO_280001 := n1_; have HO_280002 := n2_; have HO_289001 := n3_; have HO_289002 := n4_; have BK254 := n5_; have BK262 := n6_; have BK279 := n7_; have BK288 := n8_; have HB := n9_; clear n0_ n1_ n2_ n3_ n4_ n5_ n6_ n7_ n8_ n9_; clear hg hw hp_))
           go_roundg k3
           case measure => have := HJ14.out; have := HK2.out; have := HK3.out; omega
           case rel => exact ⟨(wrap64 (x20_3 + 1)), (x280001_3), (y291), (x289001_3), (x289002_3), (u280001), (.slice (some ⟨go88, 0, none⟩) x280002_3.length co93), (u289001), (u289002), (by first | rfl | (simp; done) | (simp [*]; done)), H', ⟨by have := HJ14.out; have := HK2.out; have := HK3.out; omega⟩, ⟨by (with_reducible repeat (first | apply Kd.S_alloc | apply Kd.S_drewN | apply Kd.S_drew)); exact Kd.S_mono HO_263000.out (fun _ hk => ⟨hk.1.1, ⟨hk.2, ⟨hk.1.2.1, hk.1.2.2⟩⟩⟩)⟩, ⟨by (with_reducible repeat (first | apply Kc.R_alloc | apply Kc.R_drewN | apply Kc.R_drew)); exact Kc.R_mono HO_280001.out (fun _ hk => ⟨hk.2, ⟨hk.1.1, hk.1.2⟩⟩)⟩, ⟨by (with_reducible repeat (first | apply Kc.R_alloc | apply Kc.R_drewN | apply Kc.R_drew)); exact HO_280002.out⟩, ⟨by (with_reducible repeat (first | apply Kc.R_alloc | apply Kc.R_drewN | apply Kc.R_drew)); exact Kc.R_mono HO_289001.out (fun _ hk => ⟨hk.1.1, ⟨hk.2, hk.1.2⟩⟩)⟩, ⟨by (with_reducible repeat (first | apply Kc.R_alloc | apply Kc.R_drewN | apply Kc.R_drew)); exact Kc.R_mono HO_289002.out (fun _ hk => ⟨hk.1.1, ⟨hk.2, hk.1.2⟩⟩)⟩, ⟨by (with_reducible repeat (first | refine blk_drewN ?_ _ | refine blk_drew ?_ | refine blk_alloc ?_ _)); exact BK254.out⟩, ⟨by (with_reducible repeat (first | refine blk_drewN ?_ _ | refine blk_drew ?_ | refine blk_alloc ?_ _)); exact BK262.out⟩, ⟨by (with_reducible repeat (first | refine blk_drewN ?_ _ | refine blk_drew ?_ | refine blk_alloc ?_ _)); exact BK279.out⟩, ⟨by (with_reducible repeat (first | refine blk_drewN ?_ _ | refine blk_drew ?_ | refine blk_alloc ?_ _)); exact BK288.out⟩, ⟨by repeat (first | (with_reducible first | exact HB.out | apply below_alloc | apply pw_below_drewN | apply below_drew1 | refine below_set ?_ GE254.out | refine below_set ?_ GE262.out | refine below_set ?_ GE279.out | refine below_set ?_ GE288.out) | exact HB.out)⟩⟩
          ·
           rw [if_neg c87] at H
           exact absurd H (by simp)
         ·
          rw [if_neg c86] at H
          have c86b0 : decide (x20_3 < (x280002_3.length : Int)) = false := decide_eq_false c86
          clear c86
          by_cases c96 : x18_14 = true
          ·
           subst c96
           have H1 : ((millhandref16_Same.f k3 t256 t259 t260 t261 l0_0 a0_1 a0_2 a0_3).bind fun t292 => (some t292)) = some r := by rw [if_pos rfl] at H; exact H
           clear H
           have H := H1
           clear H1
           replace H := Option.bind_eq_some_iff.mp H
           obtain ⟨t292, A970, H⟩ := H
           replace H : (some t292) = some r := H
           have A97 := Aside0.mk A970
           clear A970
           obtain rfl := Option.some.inj H
           have hnb98 := NB279_254.out
           have hnc98 := NB254_279.out
           have hnb99 := NB279_262.out
           have hnc99 := NB262_279.out
           have hnb100 := NB279_288.out
           have hnc100 := NB288_279.out
           have hcz101_0 : wr.cell? ⟨gb279, 0, none⟩ = some (.int .i64 t271) := (blk_cell BK279.out 0).trans rfl
           have hcz101_1 : wr.cell? ⟨gb279, 1, none⟩ = some (u280001) := (blk_cell BK279.out 1).trans rfl
           have hcz101_2 : wr.cell? ⟨gb279, 2, none⟩ = some (u280002) := (blk_cell BK279.out 2).trans rfl
           have hfz101_0 := blk_frozen BK279.out 0
           have hfz101_1 := blk_frozen BK279.out 1
           have hfz101_2 := blk_frozen BK279.out 2
           obtain ⟨Ao102, co102, eo102⟩ := Kc.R_slice HO_280002.out
           subst eo102
           have hnb103 := NB262_254.out
           have hnc103 := NB254_262.out
           have hnb104 := NB262_288.out
           have hnc104 := NB288_262.out
           have hcz105_0 : wr.cell? ⟨gb262, 0, none⟩ = some (.slice Ao22 t256.length co22) := (blk_cell BK262.out 0).trans rfl
           have hcz105_1 : wr.cell? ⟨gb262, 1, none⟩ = some (.int .i64 t259) := (blk_cell BK262.out 1).trans rfl
           have hcz105_2 : wr.cell? ⟨gb262, 2, none⟩ = some (.int .i64 t260) := (blk_cell BK262.out 2).trans rfl
           have hcz105_3 : wr.cell? ⟨gb262, 3, none⟩ = some (.string t261) := (blk_cell BK262.out 3).trans rfl
           have hfz105_0 := blk_frozen BK262.out 0
           have hfz105_1 := blk_frozen BK262.out 1
           have hfz105_2 := blk_frozen BK262.out 2
           have hfz105_3 := blk_frozen BK262.out 3
           have hnb106 := NB254_288.out
           have hnc106 := NB288_254.out
           have hcz107_0 : wr.cell? ⟨gb254, 0, none⟩ = some (.slice A0_0 l0_0.length c0_0) := (blk_cell BK254.out 0).trans rfl
           have hcz107_1 : wr.cell? ⟨gb254, 1, none⟩ = some (.int .i64 a0_1) := (blk_cell BK254.out 1).trans rfl
           have hcz107_2 : wr.cell? ⟨gb254, 2, none⟩ = some (.int .i64 a0_2) := (blk_cell BK254.out 2).trans rfl
           have hcz107_3 : wr.cell? ⟨gb254, 3, none⟩ = some (.string a0_3) := (blk_cell BK254.out 3).trans rfl
           have hfz107_0 := blk_frozen BK254.out 0
           have hfz107_1 := blk_frozen BK254.out 1
           have hfz107_2 := blk_frozen BK254.out 2
           have hfz107_3 := blk_frozen BK254.out 3
           go_wp2_with (first | (go_at_call 18; (with_reducible refine (millhandref16_Same.calls k3 _ _ t256 t259 t260 t261 _ _ l0_0 a0_1 a0_2 a0_3 t292 _ ?side1 ?side2 ?side3 ?side4 A97.out).mono ?_); (case side1 => repeat (first | exact (Kd.S_reads' HO_263000.out).2.2 | (with_reducible refine Kd.C_alloc ?_ _) | (with_reducible refine Kd.C_drewN ?_ _) | (with_reducible refine Kd.C_drew ?_))); (case side2 => exact (Kd.S_reads' HO_263000.out).2.1); (case side3 => repeat (first | exact (Kd.C_below HR0_0.out HB.out) | (with_reducible refine Kd.C_alloc ?_ _) | (with_reducible refine Kd.C_drewN ?_ _) | (with_reducible refine Kd.C_drew ?_))); (case side4 => exact HC0_0.out); rintro e w108 ⟨rfl, hb⟩; have n0_ := Aside0.mk (Kd.S_below (by (with_reducible repeat (first | apply Kd.S_alloc | apply Kd.S_drewN | apply Kd.S_drew)); exact HO_263000.out) hb); have n1_ := Aside0.mk (Kc.R_below (by (with_reducible repeat (first | apply Kc.R_alloc | apply Kc.R_drewN | apply Kc.R_drew)); exact HO_280001.out) hb); have n2_ := Aside0.mk (Kc.R_below (by (with_reducible repeat (first | apply Kc.R_alloc | apply Kc.R_drewN | apply Kc.R_drew)); exact HO_280002.out) hb); have n3_ := Aside0.mk (Kc.R_below (by (with_reducible repeat (first | apply Kc.R_alloc | apply Kc.R_drewN | apply Kc.R_drew)); exact HO_289001.out) hb); have n4_ := Aside0.mk (Kc.R_below (by (with_reducible repeat (first | apply Kc.R_alloc | apply Kc.R_drewN | apply Kc.R_drew)); exact HO_289002.out) hb); have n5_ := Aside0.mk (blk_below (g := gb254) (o := .cells #[.slice A0_0 l0_0.length c0_0, .int .i64 a0_1, .int .i64 a0_2, .string a0_3] 24 (0, 0)) (by (with_reducible repeat (first | refine blk_drewN ?_ _ | refine blk_drew ?_ | refine blk_alloc ?_ _)); exact BK254.out) hb); have n6_ := Aside0.mk (blk_below (g := gb262) (o := .cells #[.slice Ao22 t256.length co22, .int .i64 t259, .int .i64 t260, .string t261] 24 (0, 0)) (by (with_reducible repeat (first | refine blk_drewN ?_ _ | refine blk_drew ?_ | refine blk_alloc ?_ _)); exact BK262.out) hb); have n7_ := Aside0.mk (blk_below (g := gb279) (o := .cells #[.int .i64 t271, u280001, .slice Ao102 x280002_3.length co102] 31 (0, 0)) (by (with_reducible repeat (first | refine blk_drewN ?_ _ | refine blk_drew ?_ | refine blk_alloc ?_ _)); exact BK279.out) hb); have n8_ := Aside0.mk (blk_below (g := gb288) (o := .cells #[.int .i64 t280, u289001, u289002] 31 (0, 0)) (by (with_reducible repeat (first | refine blk_drewN ?_ _ | refine blk_drew ?_ | refine blk_alloc ?_ _)); exact BK288.out) hb); have n9_ := Aside0.mk (below_step (by repeat (first | (with_reducible first | exact HB.out | apply below_alloc | apply pw_below_drewN | apply below_drew1 | refine below_set ?_ GE254.out | refine below_set ?_ GE262.out | refine below_set ?_ GE279.out | refine below_set ?_ GE288.out) | exact HB.out)) hb); clear HO_263000; clear HO_280001; clear HO_280002; clear HO_289001; clear HO_289002; clear BK254; clear BK262; clear BK279; clear BK288; clear HB; have HO_263000 := n0_; have HO_280001 := n1_; have HO_280002 := n2_; have HO_289001 := n3_; have HO_289002 := n4_; have BK254 := n5_; have BK262 := n6_; have BK279 := n7_; have BK288 := n8_; have HB := n9_; clear n0_ n1_ n2_ n3_ n4_ n5_ n6_ n7_ n8_ n9_; (try clear hb); (try clear hb2); (try clear hk); (try clear hi)))
           go_ret
           exact ⟨by first | rfl | (simp [errW_none, errW_some] <;> rfl) | (simp [*, errW_none, errW_some] <;> rfl) | exact ret_ie _ | (simp [*, errW_none, errW_some, bne]; done), by repeat (first | (with_reducible first | exact HB.out | apply below_alloc | apply pw_below_drewN | apply below_drew1 | refine below_set ?_ GE254.out | refine below_set ?_ GE262.out | refine below_set ?_ GE279.out | refine below_set ?_ GE288.out) | exact HB.out)⟩
          ·
           replace c96 := Bool.eq_false_iff.mpr c96
           subst c96
           have H1 : (some false) = some r := by rw [if_neg (show ¬ (false = true) by decide)] at H; exact H
           clear H
           have H := H1
           clear H1
           obtain rfl := Option.some.inj H
           have hnb109 := NB279_254.out
           have hnc109 := NB254_279.out
           have hnb110 := NB279_262.out
           have hnc110 := NB262_279.out
           have hnb111 := NB279_288.out
           have hnc111 := NB288_279.out
           have hcz112_0 : wr.cell? ⟨gb279, 0, none⟩ = some (.int .i64 t271) := (blk_cell BK279.out 0).trans rfl
           have hcz112_1 : wr.cell? ⟨gb279, 1, none⟩ = some (u280001) := (blk_cell BK279.out 1).trans rfl
           have hcz112_2 : wr.cell? ⟨gb279, 2, none⟩ = some (u280002) := (blk_cell BK279.out 2).trans rfl
           have hfz112_0 := blk_frozen BK279.out 0
           have hfz112_1 := blk_frozen BK279.out 1
           have hfz112_2 := blk_frozen BK279.out 2
           obtain ⟨Ao113, co113, eo113⟩ := Kc.R_slice HO_280002.out
           subst eo113
           go_wp2
           go_ret
           exact ⟨by first | rfl | (simp [errW_none, errW_some] <;> rfl) | (simp [*, errW_none, errW_some] <;> rfl) | exact ret_ie _ | (simp [*, errW_none, errW_some, bne]; done), by repeat (first | (with_reducible first | exact HB.out | apply below_alloc | apply pw_below_drewN | apply below_drew1 | refine below_set ?_ GE254.out | refine below_set ?_ GE262.out | refine below_set ?_ GE279.out | refine below_set ?_ GE288.out) | exact HB.out)⟩

end Go.Proofs.Ytgeeignipammhaa.R

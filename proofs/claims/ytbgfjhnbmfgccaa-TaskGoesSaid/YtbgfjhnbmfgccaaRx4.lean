/- Contracts of Go functions and what they come to, over the translation of this seat: made by a program of this session (print2.py). -/
import Derived.Test.YtbgfjhnbmfgccaaSh
import Derived.Test.YtbgfjhnbmfgccaaRx0
import Derived.Test.YtbgfjhnbmfgccaaRx2
import Derived.Test.YtbgfjhnbmfgccaaRx3
namespace Go.Proofs.Ytbgfjhnbmfgccaa.R
open Go.RowKit Go.Proofs.Ytbgfjhnbmfgccaa.Sh Go.Proofs.Ytbgfjhnbmfgccaa.Co Go.Proofs.Ytbgfjhnbmfgccaa.Ret Go.Proofs.Ytbgfjhnbmfgccaa.Plain Go.Proofs.YtbgfjhnbmfgccaaW.PrintWords Go.Proofs.YtbgfjhnbmfgccaaW.PrintLast Go.Proofs.YtbgfjhnbmfgccaaW.PrintMore
attribute [local go_sem] max2_int min2_int max_two min_two max_three min_three max_four min_four   -- for this text's walks alone
set_option linter.unusedVariables false
set_option linter.unusedSimpArgs false

/-! ### task_Check: function 9 -/
def task_Check.f (k : Nat) (l0_0 : List Int) (a0_1 : Int) (a0_2 : Int) (a1_0 : Int) (a1_1 : Int) (a1_2 : Int) (a1_3 : Int) (a1_4 : Int) : Option (Int) := (task_node.f l0_0 a0_1 a0_2).bind fun t110 => (if t110 = true then ((task_may.f k l0_0 a0_1 a0_2 a1_0 a1_1 a1_2 a1_3 a1_4).bind fun t111 => (if t111 = true then (some 0) else (some 8))) else (some 8))
theorem task_Check.mono : ∀ a0 a1 a2 a3 a4 a5 a6 a7 k, LeO (task_Check.f k a0 a1 a2 a3 a4 a5 a6 a7) (task_Check.f (k + 1) a0 a1 a2 a3 a4 a5 a6 a7) := by
 intro a0 a1 a2 a3 a4 a5 a6 a7 k
 unfold task_Check.f
 repeat' first
   | (with_reducible exact task_may.mono _ _ _ _ _ _ _ _ _)
   | (with_reducible exact LeO.refl _)
   | (with_reducible exact LeO.none _)
   | (with_reducible refine LeO.ite ?_ ?_)
   | (with_reducible refine LeO.bind ?_ (fun _ => ?_))
   | exact task_may.mono _ _ _ _ _ _ _ _ _
   | exact LeO.none _
   | refine LeO.ite ?_ ?_
   | refine LeO.bind ?_ (fun _ => ?_)
set_option maxHeartbeats 8000000 in
set_option maxRecDepth 100000 in
theorem task_Check.calls (k : Nat) (A0_0 : Option Addr) (c0_0 : Nat) (l0_0 : List Int) (a0_1 : Int) (a0_2 : Int) (a1_0 : Int) (a1_1 : Int) (a1_2 : Int) (a1_3 : Int) (a1_4 : Int) (r : Int) (w : World) (hr0_0 : Kd.C (Kd.int .i64) w A0_0 l0_0.length l0_0) (hc0_0 : l0_0.length ≤ c0_0) (h : task_Check.f k l0_0 a0_1 a0_2 a1_0 a1_1 a1_2 a1_3 a1_4 = some r) :
  Calls Try.prog 9 #[.agg #[.slice A0_0 l0_0.length c0_0, .int .i64 a0_1, .int .i64 a0_2], .agg #[.int .u8 a1_0, .int .i64 a1_1, .int .i64 a1_2, .int .i64 a1_3, .int .i64 a1_4]] w fun e w' => e = .returned (.int .i64 r) ∧ Below w.heap.size w w' := by
 have hu24 := Try.underlying24
 have hu31 := Try.underlying31
 have HR0_0 := Aside0.mk hr0_0
 have HC0_0 := Aside0.mk hc0_0
 clear hr0_0 hc0_0
 have HB := Aside0.mk (Below.refl w.heap.size w)
 have H : ((task_node.f l0_0 a0_1 a0_2).bind fun t110 => (if t110 = true then ((task_may.f k l0_0 a0_1 a0_2 a1_0 a1_1 a1_2 a1_3 a1_4).bind fun t111 => (if t111 = true then (some 0) else (some 8))) else (some 8))) = some r := h
 clear h
 replace H := Option.bind_eq_some_iff.mp H
 obtain ⟨t110, A30, H⟩ := H
 replace H : (if t110 = true then ((task_may.f k l0_0 a0_1 a0_2 a1_0 a1_1 a1_2 a1_3 a1_4).bind fun t111 => (if t111 = true then (some 0) else (some 8))) else (some 8)) = some r := H
 have A3 := Aside0.mk A30
 clear A30
 by_cases c4 : t110 = true
 ·
  subst c4
  have H1 : ((task_may.f k l0_0 a0_1 a0_2 a1_0 a1_1 a1_2 a1_3 a1_4).bind fun t111 => (if t111 = true then (some 0) else (some 8))) = some r := by rw [if_pos rfl] at H; exact H
  clear H
  have H := H1
  clear H1
  replace H := Option.bind_eq_some_iff.mp H
  obtain ⟨t111, A50, H⟩ := H
  replace H : (if t111 = true then (some 0) else (some 8)) = some r := H
  have A5 := Aside0.mk A50
  clear A50
  by_cases c6 : t111 = true
  ·
   subst c6
   have H1 : (some 0) = some r := by rw [if_pos rfl] at H; exact H
   clear H
   have H := H1
   clear H1
   obtain rfl := Option.some.inj H
   go_enter Try.func9, Try.ntmps9
   go_wp2_with (first | ((with_reducible refine gate_dst (N := 2) rfl ?_); refine box_event ?hg (N := 2) ?hd (cs := #[.slice A0_0 l0_0.length c0_0, .int .i64 a0_1, .int .i64 a0_2]) (t := 24) ?hr ?_; (case hd => rfl); (case hg => rfl); (case hr => first | (go_simp; done) | (go_simp; rfl)); intro gb108 hg w7 hbox hb; have BK108 := Aside0.mk (hbox); have GW108 := bz_ (hB_ HB.out) hg; have GE108 := bz_ (hB_ HB.out) hg; replace HB := Aside0.mk (below_step (hB_ HB.out) hb); clear hb hbox hg) | ((with_reducible refine gate_dst (N := 3) rfl ?_); refine box_event ?hg (N := 3) ?hd (cs := #[.int .u8 a1_0, .int .i64 a1_1, .int .i64 a1_2, .int .i64 a1_3, .int .i64 a1_4]) (t := 31) ?hr ?_; (case hd => rfl); (case hg => rfl); (case hr => first | (go_simp; done) | (go_simp; rfl)); intro gb109 hg w8 hbox hb; have BK109 := Aside0.mk (hbox); have GW109 := bz_ (hB_ HB.out) hg; have GE109 := bz_ (hB_ HB.out) hg; replace HB := Aside0.mk (below_step (hB_ HB.out) hb); have NB108_109 := bn_ BK108 hg; have NB109_108 := bm_ BK108 hg; replace BK108 := bs_ BK108 hb; clear hb hbox hg; have hcz10_0 : w8.cell? ⟨gb108, 0, none⟩ = some (.slice A0_0 l0_0.length c0_0) := ck_ BK108 0; have hcz10_1 : w8.cell? ⟨gb108, 1, none⟩ = some (.int .i64 a0_1) := ck_ BK108 1; have hcz10_2 : w8.cell? ⟨gb108, 2, none⟩ = some (.int .i64 a0_2) := ck_ BK108 2; have hfz10_0 := blk_frozen BK108.out 0; have hfz10_1 := blk_frozen BK108.out 1; have hfz10_2 := blk_frozen BK108.out 2) | ((with_reducible refine gate_callee (f := 32) rfl ?_); refine goesL_ (some 6) rfl rfl Try.func32 (by kernel_rfl) rfl #[.agg #[.slice A0_0 l0_0.length c0_0, .int .i64 a0_1, .int .i64 a0_2]] rfl (by (try simp only [List.map_toArray, List.map_cons, List.map_nil]); first | done | rfl | (simp only [List.length_drop, List.length_take]; rfl)) ?_; (with_reducible refine (task_node.calls _ _ l0_0 a0_1 a0_2 true _ ?side1 ?side2 A3.out).mono ?_); (case side1 => repeat (first | exact (Kd.C_below HR0_0.out HB.out) | (with_reducible refine Kd.C_alloc ?_ _) | (with_reducible refine Kd.C_drewN ?_ _) | (with_reducible refine Kd.C_drew ?_))); (case side2 => exact HC0_0.out); rintro e w11 ⟨rfl, hb⟩; refine ⟨_, rfl, ?_⟩; replace BK108 := bs_ BK108 hb; replace BK109 := bs_ BK109 hb; replace HB := Aside0.mk (below_step (hB_ HB.out) hb); (try clear hb); (try clear hb2); (try clear hk); (try clear hi); have hcz12_0 : w11.cell? ⟨gb108, 0, none⟩ = some (.slice A0_0 l0_0.length c0_0) := ck_ BK108 0; have hcz12_1 : w11.cell? ⟨gb108, 1, none⟩ = some (.int .i64 a0_1) := ck_ BK108 1; have hcz12_2 : w11.cell? ⟨gb108, 2, none⟩ = some (.int .i64 a0_2) := ck_ BK108 2; have hfz12_0 := blk_frozen BK108.out 0; have hfz12_1 := blk_frozen BK108.out 1; have hfz12_2 := blk_frozen BK108.out 2; have hcz13_0 : w11.cell? ⟨gb109, 0, none⟩ = some (.int .u8 a1_0) := ck_ BK109 0; have hcz13_1 : w11.cell? ⟨gb109, 1, none⟩ = some (.int .i64 a1_1) := ck_ BK109 1; have hcz13_2 : w11.cell? ⟨gb109, 2, none⟩ = some (.int .i64 a1_2) := ck_ BK109 2; have hcz13_3 : w11.cell? ⟨gb109, 3, none⟩ = some (.int .i64 a1_3) := ck_ BK109 3; have hcz13_4 : w11.cell? ⟨gb109, 4, none⟩ = some (.int .i64 a1_4) := ck_ BK109 4; have hfz13_0 := blk_frozen BK109.out 0; have hfz13_1 := blk_frozen BK109.out 1; have hfz13_2 := blk_frozen BK109.out 2; have hfz13_3 := blk_frozen BK109.out 3; have hfz13_4 := blk_frozen BK109.out 4) | (go_at_call 34; (with_reducible refine (task_may.calls k _ _ l0_0 a0_1 a0_2 a1_0 a1_1 a1_2 a1_3 a1_4 true _ ?side1 ?side2 A5.out).mono ?_); (case side1 => repeat (first | exact (Kd.C_below HR0_0.out HB.out) | (with_reducible refine Kd.C_alloc ?_ _) | (with_reducible refine Kd.C_drewN ?_ _) | (with_reducible refine Kd.C_drew ?_))); (case side2 => exact HC0_0.out); rintro e w14 ⟨rfl, hb⟩; replace BK108 := bs_ BK108 hb; replace BK109 := bs_ BK109 hb; replace HB := Aside0.mk (below_step (hB_ HB.out) hb); (try clear hb); (try clear hb2); (try clear hk); (try clear hi)))
   go_ret
   exact ⟨by first | rfl | (simp [errW_none, errW_some] <;> rfl) | (simp [*, errW_none, errW_some] <;> rfl) | exact ret_ie _ | (simp [*, errW_none, errW_some, bne]; done), by repeat (first | (with_reducible first | exact HB.out | apply below_alloc | apply pw_below_drewN | apply below_drew1 | refine below_set ?_ GE108.out | refine below_set ?_ GE109.out) | exact HB.out)⟩
  ·
   replace c6 := Bool.eq_false_iff.mpr c6
   subst c6
   have H1 : (some 8) = some r := by rw [if_neg (show ¬ (false = true) by decide)] at H; exact H
   clear H
   have H := H1
   clear H1
   obtain rfl := Option.some.inj H
   go_enter Try.func9, Try.ntmps9
   go_wp2_with (first | ((with_reducible refine gate_dst (N := 2) rfl ?_); refine box_event ?hg (N := 2) ?hd (cs := #[.slice A0_0 l0_0.length c0_0, .int .i64 a0_1, .int .i64 a0_2]) (t := 24) ?hr ?_; (case hd => rfl); (case hg => rfl); (case hr => first | (go_simp; done) | (go_simp; rfl)); intro gb108 hg w15 hbox hb; have BK108 := Aside0.mk (hbox); have GW108 := bz_ (hB_ HB.out) hg; have GE108 := bz_ (hB_ HB.out) hg; replace HB := Aside0.mk (below_step (hB_ HB.out) hb); clear hb hbox hg) | ((with_reducible refine gate_dst (N := 3) rfl ?_); refine box_event ?hg (N := 3) ?hd (cs := #[.int .u8 a1_0, .int .i64 a1_1, .int .i64 a1_2, .int .i64 a1_3, .int .i64 a1_4]) (t := 31) ?hr ?_; (case hd => rfl); (case hg => rfl); (case hr => first | (go_simp; done) | (go_simp; rfl)); intro gb109 hg w16 hbox hb; have BK109 := Aside0.mk (hbox); have GW109 := bz_ (hB_ HB.out) hg; have GE109 := bz_ (hB_ HB.out) hg; replace HB := Aside0.mk (below_step (hB_ HB.out) hb); have NB108_109 := bn_ BK108 hg; have NB109_108 := bm_ BK108 hg; replace BK108 := bs_ BK108 hb; clear hb hbox hg; have hcz18_0 : w16.cell? ⟨gb108, 0, none⟩ = some (.slice A0_0 l0_0.length c0_0) := ck_ BK108 0; have hcz18_1 : w16.cell? ⟨gb108, 1, none⟩ = some (.int .i64 a0_1) := ck_ BK108 1; have hcz18_2 : w16.cell? ⟨gb108, 2, none⟩ = some (.int .i64 a0_2) := ck_ BK108 2; have hfz18_0 := blk_frozen BK108.out 0; have hfz18_1 := blk_frozen BK108.out 1; have hfz18_2 := blk_frozen BK108.out 2) | ((with_reducible refine gate_callee (f := 32) rfl ?_); refine goesL_ (some 6) rfl rfl Try.func32 (by kernel_rfl) rfl #[.agg #[.slice A0_0 l0_0.length c0_0, .int .i64 a0_1, .int .i64 a0_2]] rfl (by (try simp only [List.map_toArray, List.map_cons, List.map_nil]); first | done | rfl | (simp only [List.length_drop, List.length_take]; rfl)) ?_; (with_reducible refine (task_node.calls _ _ l0_0 a0_1 a0_2 true _ ?side1 ?side2 A3.out).mono ?_); (case side1 => repeat (first | exact (Kd.C_below HR0_0.out HB.out) | (with_reducible refine Kd.C_alloc ?_ _) | (with_reducible refine Kd.C_drewN ?_ _) | (with_reducible refine Kd.C_drew ?_))); (case side2 => exact HC0_0.out); rintro e w19 ⟨rfl, hb⟩; refine ⟨_, rfl, ?_⟩; replace BK108 := bs_ BK108 hb; replace BK109 := bs_ BK109 hb; replace HB := Aside0.mk (below_step (hB_ HB.out) hb); (try clear hb); (try clear hb2); (try clear hk); (try clear hi); have hcz20_0 : w19.cell? ⟨gb108, 0, none⟩ = some (.slice A0_0 l0_0.length c0_0) := ck_ BK108 0; have hcz20_1 : w19.cell? ⟨gb108, 1, none⟩ = some (.int .i64 a0_1) := ck_ BK108 1; have hcz20_2 : w19.cell? ⟨gb108, 2, none⟩ = some (.int .i64 a0_2) := ck_ BK108 2; have hfz20_0 := blk_frozen BK108.out 0; have hfz20_1 := blk_frozen BK108.out 1; have hfz20_2 := blk_frozen BK108.out 2; have hcz21_0 : w19.cell? ⟨gb109, 0, none⟩ = some (.int .u8 a1_0) := ck_ BK109 0; have hcz21_1 : w19.cell? ⟨gb109, 1, none⟩ = some (.int .i64 a1_1) := ck_ BK109 1; have hcz21_2 : w19.cell? ⟨gb109, 2, none⟩ = some (.int .i64 a1_2) := ck_ BK109 2; have hcz21_3 : w19.cell? ⟨gb109, 3, none⟩ = some (.int .i64 a1_3) := ck_ BK109 3; have hcz21_4 : w19.cell? ⟨gb109, 4, none⟩ = some (.int .i64 a1_4) := ck_ BK109 4; have hfz21_0 := blk_frozen BK109.out 0; have hfz21_1 := blk_frozen BK109.out 1; have hfz21_2 := blk_frozen BK109.out 2; have hfz21_3 := blk_frozen BK109.out 3; have hfz21_4 := blk_frozen BK109.out 4) | (go_at_call 34; (with_reducible refine (task_may.calls k _ _ l0_0 a0_1 a0_2 a1_0 a1_1 a1_2 a1_3 a1_4 false _ ?side1 ?side2 A5.out).mono ?_); (case side1 => repeat (first | exact (Kd.C_below HR0_0.out HB.out) | (with_reducible refine Kd.C_alloc ?_ _) | (with_reducible refine Kd.C_drewN ?_ _) | (with_reducible refine Kd.C_drew ?_))); (case side2 => exact HC0_0.out); rintro e w22 ⟨rfl, hb⟩; replace BK108 := bs_ BK108 hb; replace BK109 := bs_ BK109 hb; replace HB := Aside0.mk (below_step (hB_ HB.out) hb); (try clear hb); (try clear hb2); (try clear hk); (try clear hi)))
   go_ret
   exact ⟨by first | rfl | (simp [errW_none, errW_some] <;> rfl) | (simp [*, errW_none, errW_some] <;> rfl) | exact ret_ie _ | (simp [*, errW_none, errW_some, bne]; done), by repeat (first | (with_reducible first | exact HB.out | apply below_alloc | apply pw_below_drewN | apply below_drew1 | refine below_set ?_ GE108.out | refine below_set ?_ GE109.out) | exact HB.out)⟩
 ·
  replace c4 := Bool.eq_false_iff.mpr c4
  subst c4
  have H1 : (some 8) = some r := by rw [if_neg (show ¬ (false = true) by decide)] at H; exact H
  clear H
  have H := H1
  clear H1
  obtain rfl := Option.some.inj H
  go_enter Try.func9, Try.ntmps9
  go_wp2_with (first | ((with_reducible refine gate_dst (N := 2) rfl ?_); refine box_event ?hg (N := 2) ?hd (cs := #[.slice A0_0 l0_0.length c0_0, .int .i64 a0_1, .int .i64 a0_2]) (t := 24) ?hr ?_; (case hd => rfl); (case hg => rfl); (case hr => first | (go_simp; done) | (go_simp; rfl)); intro gb108 hg w23 hbox hb; have BK108 := Aside0.mk (hbox); have GW108 := bz_ (hB_ HB.out) hg; have GE108 := bz_ (hB_ HB.out) hg; replace HB := Aside0.mk (below_step (hB_ HB.out) hb); clear hb hbox hg) | ((with_reducible refine gate_dst (N := 3) rfl ?_); refine box_event ?hg (N := 3) ?hd (cs := #[.int .u8 a1_0, .int .i64 a1_1, .int .i64 a1_2, .int .i64 a1_3, .int .i64 a1_4]) (t := 31) ?hr ?_; (case hd => rfl); (case hg => rfl); (case hr => first | (go_simp; done) | (go_simp; rfl)); intro gb109 hg w24 hbox hb; have BK109 := Aside0.mk (hbox); have GW109 := bz_ (hB_ HB.out) hg; have GE109 := bz_ (hB_ HB.out) hg; replace HB := Aside0.mk (below_step (hB_ HB.out) hb); have NB108_109 := bn_ BK108 hg; have NB109_108 := bm_ BK108 hg; replace BK108 := bs_ BK108 hb; clear hb hbox hg; have hnb25 := NB108_109.out; have hnc25 := NB109_108.out; have hcz26_0 : w24.cell? ⟨gb108, 0, none⟩ = some (.slice A0_0 l0_0.length c0_0) := ck_ BK108 0; have hcz26_1 : w24.cell? ⟨gb108, 1, none⟩ = some (.int .i64 a0_1) := ck_ BK108 1; have hcz26_2 : w24.cell? ⟨gb108, 2, none⟩ = some (.int .i64 a0_2) := ck_ BK108 2; have hfz26_0 := blk_frozen BK108.out 0; have hfz26_1 := blk_frozen BK108.out 1; have hfz26_2 := blk_frozen BK108.out 2) | ((with_reducible refine gate_callee (f := 32) rfl ?_); refine goesL_ (some 6) rfl rfl Try.func32 (by kernel_rfl) rfl #[.agg #[.slice A0_0 l0_0.length c0_0, .int .i64 a0_1, .int .i64 a0_2]] rfl (by (try simp only [List.map_toArray, List.map_cons, List.map_nil]); first | done | rfl | (simp only [List.length_drop, List.length_take]; rfl)) ?_; (with_reducible refine (task_node.calls _ _ l0_0 a0_1 a0_2 false _ ?side1 ?side2 A3.out).mono ?_); (case side1 => repeat (first | exact (Kd.C_below HR0_0.out HB.out) | (with_reducible refine Kd.C_alloc ?_ _) | (with_reducible refine Kd.C_drewN ?_ _) | (with_reducible refine Kd.C_drew ?_))); (case side2 => exact HC0_0.out); rintro e w27 ⟨rfl, hb⟩; refine ⟨_, rfl, ?_⟩; replace BK108 := bs_ BK108 hb; replace BK109 := bs_ BK109 hb; replace HB := Aside0.mk (below_step (hB_ HB.out) hb); (try clear hb); (try clear hb2); (try clear hk); (try clear hi)))
  go_ret
  exact ⟨by first | rfl | (simp [errW_none, errW_some] <;> rfl) | (simp [*, errW_none, errW_some] <;> rfl) | exact ret_ie _ | (simp [*, errW_none, errW_some, bne]; done), by repeat (first | (with_reducible first | exact HB.out | apply below_alloc | apply pw_below_drewN | apply below_drew1 | refine below_set ?_ GE108.out | refine below_set ?_ GE109.out) | exact HB.out)⟩

/-! ### task_asked: function 48 -/
def task_asked.f (k : Nat) (l0_0 : List Int) (a0_1 : Int) (a0_2 : Int) (a1_0 : Int) (a1_1 : Int) (a1_2 : Int) (a1_3 : Int) (a1_4 : Int) (a2 : Bool) : Option (Int) := (task_Check.f k l0_0 a0_1 a0_2 a1_0 a1_1 a1_2 a1_3 a1_4).bind fun t114 => (if t114 = 0 then (if a2 = true then (some 0) else (some 2)) else (some t114))
theorem task_asked.mono : ∀ a0 a1 a2 a3 a4 a5 a6 a7 a8 k, LeO (task_asked.f k a0 a1 a2 a3 a4 a5 a6 a7 a8) (task_asked.f (k + 1) a0 a1 a2 a3 a4 a5 a6 a7 a8) := by
 intro a0 a1 a2 a3 a4 a5 a6 a7 a8 k
 unfold task_asked.f
 repeat' first
   | (with_reducible exact task_Check.mono _ _ _ _ _ _ _ _ _)
   | (with_reducible exact LeO.refl _)
   | (with_reducible exact LeO.none _)
   | (with_reducible refine LeO.ite ?_ ?_)
   | (with_reducible refine LeO.bind ?_ (fun _ => ?_))
   | exact task_Check.mono _ _ _ _ _ _ _ _ _
   | exact LeO.none _
   | refine LeO.ite ?_ ?_
   | refine LeO.bind ?_ (fun _ => ?_)
set_option maxHeartbeats 8000000 in
set_option maxRecDepth 100000 in
theorem task_asked.calls (k : Nat) (A0_0 : Option Addr) (c0_0 : Nat) (l0_0 : List Int) (a0_1 : Int) (a0_2 : Int) (a1_0 : Int) (a1_1 : Int) (a1_2 : Int) (a1_3 : Int) (a1_4 : Int) (a2 : Bool) (r : Int) (w : World) (hr0_0 : Kd.C (Kd.int .i64) w A0_0 l0_0.length l0_0) (hc0_0 : l0_0.length ≤ c0_0) (h : task_asked.f k l0_0 a0_1 a0_2 a1_0 a1_1 a1_2 a1_3 a1_4 a2 = some r) :
  Calls Try.prog 48 #[.agg #[.slice A0_0 l0_0.length c0_0, .int .i64 a0_1, .int .i64 a0_2], .agg #[.int .u8 a1_0, .int .i64 a1_1, .int .i64 a1_2, .int .i64 a1_3, .int .i64 a1_4], .bool a2] w fun e w' => e = .returned (.int .i64 r) ∧ Below w.heap.size w w' := by
 have hu24 := Try.underlying24
 have hu31 := Try.underlying31
 have HR0_0 := Aside0.mk hr0_0
 have HC0_0 := Aside0.mk hc0_0
 clear hr0_0 hc0_0
 have HB := Aside0.mk (Below.refl w.heap.size w)
 have H : ((task_Check.f k l0_0 a0_1 a0_2 a1_0 a1_1 a1_2 a1_3 a1_4).bind fun t114 => (if t114 = 0 then (if a2 = true then (some 0) else (some 2)) else (some t114))) = some r := h
 clear h
 replace H := Option.bind_eq_some_iff.mp H
 obtain ⟨t114, A40, H⟩ := H
 replace H : (if t114 = 0 then (if a2 = true then (some 0) else (some 2)) else (some t114)) = some r := H
 have A4 := Aside0.mk A40
 clear A40
 by_cases c5 : t114 = 0
 ·
  rw [if_pos c5] at H
  have c5b0 : (t114 == 0) = true := beq_iff_eq.mpr c5
  have c5b1 : (t114 != 0) = false := bne_eq_false_iff_eq.mpr c5
  clear c5
  by_cases c6 : a2 = true
  ·
   subst c6
   have H1 : (some 0) = some r := by rw [if_pos rfl] at H; exact H
   clear H
   have H := H1
   clear H1
   obtain rfl := Option.some.inj H
   go_enter Try.func48, Try.ntmps48
   go_wp2_with (first | ((with_reducible refine gate_dst (N := 3) rfl ?_); refine box_event ?hg (N := 3) ?hd (cs := #[.slice A0_0 l0_0.length c0_0, .int .i64 a0_1, .int .i64 a0_2]) (t := 24) ?hr ?_; (case hd => rfl); (case hg => rfl); (case hr => first | (go_simp; done) | (go_simp; rfl)); intro gb112 hg w7 hbox hb; have BK112 := Aside0.mk (hbox); have GW112 := bz_ (hB_ HB.out) hg; have GE112 := bz_ (hB_ HB.out) hg; replace HB := Aside0.mk (below_step (hB_ HB.out) hb); clear hb hbox hg) | ((with_reducible refine gate_dst (N := 4) rfl ?_); refine box_event ?hg (N := 4) ?hd (cs := #[.int .u8 a1_0, .int .i64 a1_1, .int .i64 a1_2, .int .i64 a1_3, .int .i64 a1_4]) (t := 31) ?hr ?_; (case hd => rfl); (case hg => rfl); (case hr => first | (go_simp; done) | (go_simp; rfl)); intro gb113 hg w8 hbox hb; have BK113 := Aside0.mk (hbox); have GW113 := bz_ (hB_ HB.out) hg; have GE113 := bz_ (hB_ HB.out) hg; replace HB := Aside0.mk (below_step (hB_ HB.out) hb); have NB112_113 := bn_ BK112 hg; have NB113_112 := bm_ BK112 hg; replace BK112 := bs_ BK112 hb; clear hb hbox hg; have hnb9 := NB112_113.out; have hnc9 := NB113_112.out; have hcz10_0 : w8.cell? ⟨gb112, 0, none⟩ = some (.slice A0_0 l0_0.length c0_0) := ck_ BK112 0; have hcz10_1 : w8.cell? ⟨gb112, 1, none⟩ = some (.int .i64 a0_1) := ck_ BK112 1; have hcz10_2 : w8.cell? ⟨gb112, 2, none⟩ = some (.int .i64 a0_2) := ck_ BK112 2; have hfz10_0 := blk_frozen BK112.out 0; have hfz10_1 := blk_frozen BK112.out 1; have hfz10_2 := blk_frozen BK112.out 2; have hcz11_0 : w8.cell? ⟨gb113, 0, none⟩ = some (.int .u8 a1_0) := ck_ BK113 0; have hcz11_1 : w8.cell? ⟨gb113, 1, none⟩ = some (.int .i64 a1_1) := ck_ BK113 1; have hcz11_2 : w8.cell? ⟨gb113, 2, none⟩ = some (.int .i64 a1_2) := ck_ BK113 2; have hcz11_3 : w8.cell? ⟨gb113, 3, none⟩ = some (.int .i64 a1_3) := ck_ BK113 3; have hcz11_4 : w8.cell? ⟨gb113, 4, none⟩ = some (.int .i64 a1_4) := ck_ BK113 4; have hfz11_0 := blk_frozen BK113.out 0; have hfz11_1 := blk_frozen BK113.out 1; have hfz11_2 := blk_frozen BK113.out 2; have hfz11_3 := blk_frozen BK113.out 3; have hfz11_4 := blk_frozen BK113.out 4) | ((with_reducible refine gate_callee (f := 9) rfl ?_); refine goesL_ (some 10) rfl rfl Try.func9 (by kernel_rfl) rfl #[.agg #[.slice A0_0 l0_0.length c0_0, .int .i64 a0_1, .int .i64 a0_2], .agg #[.int .u8 a1_0, .int .i64 a1_1, .int .i64 a1_2, .int .i64 a1_3, .int .i64 a1_4]] rfl (by (try simp only [List.map_toArray, List.map_cons, List.map_nil]); first | done | rfl | (simp only [List.length_drop, List.length_take]; rfl)) ?_; (with_reducible refine (task_Check.calls k _ _ l0_0 a0_1 a0_2 a1_0 a1_1 a1_2 a1_3 a1_4 t114 _ ?side1 ?side2 A4.out).mono ?_); (case side1 => repeat (first | exact (Kd.C_below HR0_0.out HB.out) | (with_reducible refine Kd.C_alloc ?_ _) | (with_reducible refine Kd.C_drewN ?_ _) | (with_reducible refine Kd.C_drew ?_))); (case side2 => exact HC0_0.out); rintro e w12 ⟨rfl, hb⟩; refine ⟨_, rfl, ?_⟩; replace BK112 := bs_ BK112 hb; replace BK113 := bs_ BK113 hb; replace HB := Aside0.mk (below_step (hB_ HB.out) hb); (try clear hb); (try clear hb2); (try clear hk); (try clear hi)))
   go_ret
   exact ⟨by first | rfl | (simp [errW_none, errW_some] <;> rfl) | (simp [*, errW_none, errW_some] <;> rfl) | exact ret_ie _ | (simp [*, errW_none, errW_some, bne]; done), by repeat (first | (with_reducible first | exact HB.out | apply below_alloc | apply pw_below_drewN | apply below_drew1 | refine below_set ?_ GE112.out | refine below_set ?_ GE113.out) | exact HB.out)⟩
  ·
   replace c6 := Bool.eq_false_iff.mpr c6
   subst c6
   have H1 : (some 2) = some r := by rw [if_neg (show ¬ (false = true) by decide)] at H; exact H
   clear H
   have H := H1
   clear H1
   obtain rfl := Option.some.inj H
   go_enter Try.func48, Try.ntmps48
   go_wp2_with (first | ((with_reducible refine gate_dst (N := 3) rfl ?_); refine box_event ?hg (N := 3) ?hd (cs := #[.slice A0_0 l0_0.length c0_0, .int .i64 a0_1, .int .i64 a0_2]) (t := 24) ?hr ?_; (case hd => rfl); (case hg => rfl); (case hr => first | (go_simp; done) | (go_simp; rfl)); intro gb112 hg w13 hbox hb; have BK112 := Aside0.mk (hbox); have GW112 := bz_ (hB_ HB.out) hg; have GE112 := bz_ (hB_ HB.out) hg; replace HB := Aside0.mk (below_step (hB_ HB.out) hb); clear hb hbox hg) | ((with_reducible refine gate_dst (N := 4) rfl ?_); refine box_event ?hg (N := 4) ?hd (cs := #[.int .u8 a1_0, .int .i64 a1_1, .int .i64 a1_2, .int .i64 a1_3, .int .i64 a1_4]) (t := 31) ?hr ?_; (case hd => rfl); (case hg => rfl); (case hr => first | (go_simp; done) | (go_simp; rfl)); intro gb113 hg w14 hbox hb; have BK113 := Aside0.mk (hbox); have GW113 := bz_ (hB_ HB.out) hg; have GE113 := bz_ (hB_ HB.out) hg; replace HB := Aside0.mk (below_step (hB_ HB.out) hb); have NB112_113 := bn_ BK112 hg; have NB113_112 := bm_ BK112 hg; replace BK112 := bs_ BK112 hb; clear hb hbox hg; have hnb15 := NB112_113.out; have hnc15 := NB113_112.out; have hcz16_0 : w14.cell? ⟨gb112, 0, none⟩ = some (.slice A0_0 l0_0.length c0_0) := ck_ BK112 0; have hcz16_1 : w14.cell? ⟨gb112, 1, none⟩ = some (.int .i64 a0_1) := ck_ BK112 1; have hcz16_2 : w14.cell? ⟨gb112, 2, none⟩ = some (.int .i64 a0_2) := ck_ BK112 2; have hfz16_0 := blk_frozen BK112.out 0; have hfz16_1 := blk_frozen BK112.out 1; have hfz16_2 := blk_frozen BK112.out 2; have hcz17_0 : w14.cell? ⟨gb113, 0, none⟩ = some (.int .u8 a1_0) := ck_ BK113 0; have hcz17_1 : w14.cell? ⟨gb113, 1, none⟩ = some (.int .i64 a1_1) := ck_ BK113 1; have hcz17_2 : w14.cell? ⟨gb113, 2, none⟩ = some (.int .i64 a1_2) := ck_ BK113 2; have hcz17_3 : w14.cell? ⟨gb113, 3, none⟩ = some (.int .i64 a1_3) := ck_ BK113 3; have hcz17_4 : w14.cell? ⟨gb113, 4, none⟩ = some (.int .i64 a1_4) := ck_ BK113 4; have hfz17_0 := blk_frozen BK113.out 0; have hfz17_1 := blk_frozen BK113.out 1; have hfz17_2 := blk_frozen BK113.out 2; have hfz17_3 := blk_frozen BK113.out 3; have hfz17_4 := blk_frozen BK113.out 4) | ((with_reducible refine gate_callee (f := 9) rfl ?_); refine goesL_ (some 10) rfl rfl Try.func9 (by kernel_rfl) rfl #[.agg #[.slice A0_0 l0_0.length c0_0, .int .i64 a0_1, .int .i64 a0_2], .agg #[.int .u8 a1_0, .int .i64 a1_1, .int .i64 a1_2, .int .i64 a1_3, .int .i64 a1_4]] rfl (by (try simp only [List.map_toArray, List.map_cons, List.map_nil]); first | done | rfl | (simp only [List.length_drop, List.length_take]; rfl)) ?_; (with_reducible refine (task_Check.calls k _ _ l0_0 a0_1 a0_2 a1_0 a1_1 a1_2 a1_3 a1_4 t114 _ ?side1 ?side2 A4.out).mono ?_); (case side1 => repeat (first | exact (Kd.C_below HR0_0.out HB.out) | (with_reducible refine Kd.C_alloc ?_ _) | (with_reducible refine Kd.C_drewN ?_ _) | (with_reducible refine Kd.C_drew ?_))); (case side2 => exact HC0_0.out); rintro e w18 ⟨rfl, hb⟩; refine ⟨_, rfl, ?_⟩; replace BK112 := bs_ BK112 hb; replace BK113 := bs_ BK113 hb; replace HB := Aside0.mk (below_step (hB_ HB.out) hb); (try clear hb); (try clear hb2); (try clear hk); (try clear hi)))
   go_ret
   exact ⟨by first | rfl | (simp [errW_none, errW_some] <;> rfl) | (simp [*, errW_none, errW_some] <;> rfl) | exact ret_ie _ | (simp [*, errW_none, errW_some, bne]; done), by repeat (first | (with_reducible first | exact HB.out | apply below_alloc | apply pw_below_drewN | apply below_drew1 | refine below_set ?_ GE112.out | refine below_set ?_ GE113.out) | exact HB.out)⟩
 ·
  rw [if_neg c5] at H
  have c5b0 : (t114 == 0) = false := beq_eq_false_iff_ne.mpr c5
  have c5b1 : (t114 != 0) = true := bne_iff_ne.mpr c5
  obtain rfl := Option.some.inj H
  go_enter Try.func48, Try.ntmps48
  go_wp2_with (first | ((with_reducible refine gate_dst (N := 3) rfl ?_); refine box_event ?hg (N := 3) ?hd (cs := #[.slice A0_0 l0_0.length c0_0, .int .i64 a0_1, .int .i64 a0_2]) (t := 24) ?hr ?_; (case hd => rfl); (case hg => rfl); (case hr => first | (go_simp; done) | (go_simp; rfl)); intro gb112 hg w19 hbox hb; have BK112 := Aside0.mk (hbox); have GW112 := bz_ (hB_ HB.out) hg; have GE112 := bz_ (hB_ HB.out) hg; replace HB := Aside0.mk (below_step (hB_ HB.out) hb); clear hb hbox hg) | ((with_reducible refine gate_dst (N := 4) rfl ?_); refine box_event ?hg (N := 4) ?hd (cs := #[.int .u8 a1_0, .int .i64 a1_1, .int .i64 a1_2, .int .i64 a1_3, .int .i64 a1_4]) (t := 31) ?hr ?_; (case hd => rfl); (case hg => rfl); (case hr => first | (go_simp; done) | (go_simp; rfl)); intro gb113 hg w20 hbox hb; have BK113 := Aside0.mk (hbox); have GW113 := bz_ (hB_ HB.out) hg; have GE113 := bz_ (hB_ HB.out) hg; replace HB := Aside0.mk (below_step (hB_ HB.out) hb); have NB112_113 := bn_ BK112 hg; have NB113_112 := bm_ BK112 hg; replace BK112 := bs_ BK112 hb; clear hb hbox hg; have hnb21 := NB112_113.out; have hnc21 := NB113_112.out; have hcz22_0 : w20.cell? ⟨gb112, 0, none⟩ = some (.slice A0_0 l0_0.length c0_0) := ck_ BK112 0; have hcz22_1 : w20.cell? ⟨gb112, 1, none⟩ = some (.int .i64 a0_1) := ck_ BK112 1; have hcz22_2 : w20.cell? ⟨gb112, 2, none⟩ = some (.int .i64 a0_2) := ck_ BK112 2; have hfz22_0 := blk_frozen BK112.out 0; have hfz22_1 := blk_frozen BK112.out 1; have hfz22_2 := blk_frozen BK112.out 2; have hcz23_0 : w20.cell? ⟨gb113, 0, none⟩ = some (.int .u8 a1_0) := ck_ BK113 0; have hcz23_1 : w20.cell? ⟨gb113, 1, none⟩ = some (.int .i64 a1_1) := ck_ BK113 1; have hcz23_2 : w20.cell? ⟨gb113, 2, none⟩ = some (.int .i64 a1_2) := ck_ BK113 2; have hcz23_3 : w20.cell? ⟨gb113, 3, none⟩ = some (.int .i64 a1_3) := ck_ BK113 3; have hcz23_4 : w20.cell? ⟨gb113, 4, none⟩ = some (.int .i64 a1_4) := ck_ BK113 4; have hfz23_0 := blk_frozen BK113.out 0; have hfz23_1 := blk_frozen BK113.out 1; have hfz23_2 := blk_frozen BK113.out 2; have hfz23_3 := blk_frozen BK113.out 3; have hfz23_4 := blk_frozen BK113.out 4) | ((with_reducible refine gate_callee (f := 9) rfl ?_); refine goesL_ (some 10) rfl rfl Try.func9 (by kernel_rfl) rfl #[.agg #[.slice A0_0 l0_0.length c0_0, .int .i64 a0_1, .int .i64 a0_2], .agg #[.int .u8 a1_0, .int .i64 a1_1, .int .i64 a1_2, .int .i64 a1_3, .int .i64 a1_4]] rfl (by (try simp only [List.map_toArray, List.map_cons, List.map_nil]); first | done | rfl | (simp only [List.length_drop, List.length_take]; rfl)) ?_; (with_reducible refine (task_Check.calls k _ _ l0_0 a0_1 a0_2 a1_0 a1_1 a1_2 a1_3 a1_4 t114 _ ?side1 ?side2 A4.out).mono ?_); (case side1 => repeat (first | exact (Kd.C_below HR0_0.out HB.out) | (with_reducible refine Kd.C_alloc ?_ _) | (with_reducible refine Kd.C_drewN ?_ _) | (with_reducible refine Kd.C_drew ?_))); (case side2 => exact HC0_0.out); rintro e w24 ⟨rfl, hb⟩; refine ⟨_, rfl, ?_⟩; replace BK112 := bs_ BK112 hb; replace BK113 := bs_ BK113 hb; replace HB := Aside0.mk (below_step (hB_ HB.out) hb); (try clear hb); (try clear hb2); (try clear hk); (try clear hi)))
  go_ret
  exact ⟨by first | rfl | (simp [errW_none, errW_some] <;> rfl) | (simp [*, errW_none, errW_some] <;> rfl) | exact ret_ie _ | (simp [*, errW_none, errW_some, bne]; done), by repeat (first | (with_reducible first | exact HB.out | apply below_alloc | apply pw_below_drewN | apply below_drew1 | refine below_set ?_ GE112.out | refine below_set ?_ GE113.out) | exact HB.out)⟩

/-! ### task_in: function 37 -/
def task_in.f (k : Nat) (l0_0 : List Int) (a0_1 : Int) (a0_2 : Int) (a1_0 : Int) (a1_1 : Int) (a1_2 : Int) (a1_3 : Int) (a1_4 : Int) (a2 : Bool) (a3 : Int) : Option (Int) := (task_asked.f k l0_0 a0_1 a0_2 a1_0 a1_1 a1_2 a1_3 a1_4 a2).bind fun t117 => (if t117 = 0 then (if a1_0 = a3 then (some 0) else (some 240)) else (some t117))
theorem task_in.mono : ∀ a0 a1 a2 a3 a4 a5 a6 a7 a8 a9 k, LeO (task_in.f k a0 a1 a2 a3 a4 a5 a6 a7 a8 a9) (task_in.f (k + 1) a0 a1 a2 a3 a4 a5 a6 a7 a8 a9) := by
 intro a0 a1 a2 a3 a4 a5 a6 a7 a8 a9 k
 unfold task_in.f
 repeat' first
   | (with_reducible exact task_asked.mono _ _ _ _ _ _ _ _ _ _)
   | (with_reducible exact LeO.refl _)
   | (with_reducible exact LeO.none _)
   | (with_reducible refine LeO.ite ?_ ?_)
   | (with_reducible refine LeO.bind ?_ (fun _ => ?_))
   | exact task_asked.mono _ _ _ _ _ _ _ _ _ _
   | exact LeO.none _
   | refine LeO.ite ?_ ?_
   | refine LeO.bind ?_ (fun _ => ?_)
set_option maxHeartbeats 8000000 in
set_option maxRecDepth 100000 in
theorem task_in.calls (k : Nat) (A0_0 : Option Addr) (c0_0 : Nat) (l0_0 : List Int) (a0_1 : Int) (a0_2 : Int) (a1_0 : Int) (a1_1 : Int) (a1_2 : Int) (a1_3 : Int) (a1_4 : Int) (a2 : Bool) (a3 : Int) (r : Int) (w : World) (hr0_0 : Kd.C (Kd.int .i64) w A0_0 l0_0.length l0_0) (hc0_0 : l0_0.length ≤ c0_0) (h : task_in.f k l0_0 a0_1 a0_2 a1_0 a1_1 a1_2 a1_3 a1_4 a2 a3 = some r) :
  Calls Try.prog 37 #[.agg #[.slice A0_0 l0_0.length c0_0, .int .i64 a0_1, .int .i64 a0_2], .agg #[.int .u8 a1_0, .int .i64 a1_1, .int .i64 a1_2, .int .i64 a1_3, .int .i64 a1_4], .bool a2, .int .u8 a3] w fun e w' => e = .returned (.int .i64 r) ∧ Below w.heap.size w w' := by
 have hu24 := Try.underlying24
 have hu31 := Try.underlying31
 have HR0_0 := Aside0.mk hr0_0
 have HC0_0 := Aside0.mk hc0_0
 clear hr0_0 hc0_0
 have HB := Aside0.mk (Below.refl w.heap.size w)
 have H : ((task_asked.f k l0_0 a0_1 a0_2 a1_0 a1_1 a1_2 a1_3 a1_4 a2).bind fun t117 => (if t117 = 0 then (if a1_0 = a3 then (some 0) else (some 240)) else (some t117))) = some r := h
 clear h
 replace H := Option.bind_eq_some_iff.mp H
 obtain ⟨t117, A50, H⟩ := H
 replace H : (if t117 = 0 then (if a1_0 = a3 then (some 0) else (some 240)) else (some t117)) = some r := H
 have A5 := Aside0.mk A50
 clear A50
 by_cases c6 : t117 = 0
 ·
  rw [if_pos c6] at H
  have c6b0 : (t117 == 0) = true := beq_iff_eq.mpr c6
  have c6b1 : (t117 != 0) = false := bne_eq_false_iff_eq.mpr c6
  clear c6
  by_cases c7 : a1_0 = a3
  ·
   rw [if_pos c7] at H
   have c7b0 : (a1_0 == a3) = true := beq_iff_eq.mpr c7
   have c7b1 : (a1_0 != a3) = false := bne_eq_false_iff_eq.mpr c7
   clear c7
   obtain rfl := Option.some.inj H
   go_enter Try.func37, Try.ntmps37
   go_wp2_with (first | ((with_reducible refine gate_dst (N := 4) rfl ?_); refine box_event ?hg (N := 4) ?hd (cs := #[.slice A0_0 l0_0.length c0_0, .int .i64 a0_1, .int .i64 a0_2]) (t := 24) ?hr ?_; (case hd => rfl); (case hg => rfl); (case hr => first | (go_simp; done) | (go_simp; rfl)); intro gb115 hg w8 hbox hb; have BK115 := Aside0.mk (hbox); have GW115 := bz_ (hB_ HB.out) hg; have GE115 := bz_ (hB_ HB.out) hg; replace HB := Aside0.mk (below_step (hB_ HB.out) hb); clear hb hbox hg) | ((with_reducible refine gate_dst (N := 5) rfl ?_); refine box_event ?hg (N := 5) ?hd (cs := #[.int .u8 a1_0, .int .i64 a1_1, .int .i64 a1_2, .int .i64 a1_3, .int .i64 a1_4]) (t := 31) ?hr ?_; (case hd => rfl); (case hg => rfl); (case hr => first | (go_simp; done) | (go_simp; rfl)); intro gb116 hg w9 hbox hb; have BK116 := Aside0.mk (hbox); have GW116 := bz_ (hB_ HB.out) hg; have GE116 := bz_ (hB_ HB.out) hg; replace HB := Aside0.mk (below_step (hB_ HB.out) hb); have NB115_116 := bn_ BK115 hg; have NB116_115 := bm_ BK115 hg; replace BK115 := bs_ BK115 hb; clear hb hbox hg; have hnb10 := NB115_116.out; have hnc10 := NB116_115.out; have hcz11_0 : w9.cell? ⟨gb115, 0, none⟩ = some (.slice A0_0 l0_0.length c0_0) := ck_ BK115 0; have hcz11_1 : w9.cell? ⟨gb115, 1, none⟩ = some (.int .i64 a0_1) := ck_ BK115 1; have hcz11_2 : w9.cell? ⟨gb115, 2, none⟩ = some (.int .i64 a0_2) := ck_ BK115 2; have hfz11_0 := blk_frozen BK115.out 0; have hfz11_1 := blk_frozen BK115.out 1; have hfz11_2 := blk_frozen BK115.out 2; have hcz12_0 : w9.cell? ⟨gb116, 0, none⟩ = some (.int .u8 a1_0) := ck_ BK116 0; have hcz12_1 : w9.cell? ⟨gb116, 1, none⟩ = some (.int .i64 a1_1) := ck_ BK116 1; have hcz12_2 : w9.cell? ⟨gb116, 2, none⟩ = some (.int .i64 a1_2) := ck_ BK116 2; have hcz12_3 : w9.cell? ⟨gb116, 3, none⟩ = some (.int .i64 a1_3) := ck_ BK116 3; have hcz12_4 : w9.cell? ⟨gb116, 4, none⟩ = some (.int .i64 a1_4) := ck_ BK116 4; have hfz12_0 := blk_frozen BK116.out 0; have hfz12_1 := blk_frozen BK116.out 1; have hfz12_2 := blk_frozen BK116.out 2; have hfz12_3 := blk_frozen BK116.out 3; have hfz12_4 := blk_frozen BK116.out 4) | ((with_reducible refine gate_callee (f := 48) rfl ?_); refine goesL_ (some 13) rfl rfl Try.func48 (by kernel_rfl) rfl #[.agg #[.slice A0_0 l0_0.length c0_0, .int .i64 a0_1, .int .i64 a0_2], .agg #[.int .u8 a1_0, .int .i64 a1_1, .int .i64 a1_2, .int .i64 a1_3, .int .i64 a1_4], .bool a2] rfl (by (try simp only [List.map_toArray, List.map_cons, List.map_nil]); first | done | rfl | (simp only [List.length_drop, List.length_take]; rfl)) ?_; (with_reducible refine (task_asked.calls k _ _ l0_0 a0_1 a0_2 a1_0 a1_1 a1_2 a1_3 a1_4 a2 t117 _ ?side1 ?side2 A5.out).mono ?_); (case side1 => repeat (first | exact (Kd.C_below HR0_0.out HB.out) | (with_reducible refine Kd.C_alloc ?_ _) | (with_reducible refine Kd.C_drewN ?_ _) | (with_reducible refine Kd.C_drew ?_))); (case side2 => exact HC0_0.out); rintro e w13 ⟨rfl, hb⟩; refine ⟨_, rfl, ?_⟩; replace BK115 := bs_ BK115 hb; replace BK116 := bs_ BK116 hb; replace HB := Aside0.mk (below_step (hB_ HB.out) hb); (try clear hb); (try clear hb2); (try clear hk); (try clear hi); have hcz14_0 : w13.cell? ⟨gb116, 0, none⟩ = some (.int .u8 a1_0) := ck_ BK116 0; have hcz14_1 : w13.cell? ⟨gb116, 1, none⟩ = some (.int .i64 a1_1) := ck_ BK116 1; have hcz14_2 : w13.cell? ⟨gb116, 2, none⟩ = some (.int .i64 a1_2) := ck_ BK116 2; have hcz14_3 : w13.cell? ⟨gb116, 3, none⟩ = some (.int .i64 a1_3) := ck_ BK116 3; have hcz14_4 : w13.cell? ⟨gb116, 4, none⟩ = some (.int .i64 a1_4) := ck_ BK116 4; have hfz14_0 := blk_frozen BK116.out 0; have hfz14_1 := blk_frozen BK116.out 1; have hfz14_2 := blk_frozen BK116.out 2; have hfz14_3 := blk_frozen BK116.out 3; have hfz14_4 := blk_frozen BK116.out 4))
   go_ret
   exact ⟨by first | rfl | (simp [errW_none, errW_some] <;> rfl) | (simp [*, errW_none, errW_some] <;> rfl) | exact ret_ie _ | (simp [*, errW_none, errW_some, bne]; done), by repeat (first | (with_reducible first | exact HB.out | apply below_alloc | apply pw_below_drewN | apply below_drew1 | refine below_set ?_ GE115.out | refine below_set ?_ GE116.out) | exact HB.out)⟩
  ·
   rw [if_neg c7] at H
   have c7b0 : (a1_0 == a3) = false := beq_eq_false_iff_ne.mpr c7
   have c7b1 : (a1_0 != a3) = true := bne_iff_ne.mpr c7
   obtain rfl := Option.some.inj H
   go_enter Try.func37, Try.ntmps37
   go_wp2_with (first | ((with_reducible refine gate_dst (N := 4) rfl ?_); refine box_event ?hg (N := 4) ?hd (cs := #[.slice A0_0 l0_0.length c0_0, .int .i64 a0_1, .int .i64 a0_2]) (t := 24) ?hr ?_; (case hd => rfl); (case hg => rfl); (case hr => first | (go_simp; done) | (go_simp; rfl)); intro gb115 hg w15 hbox hb; have BK115 := Aside0.mk (hbox); have GW115 := bz_ (hB_ HB.out) hg; have GE115 := bz_ (hB_ HB.out) hg; replace HB := Aside0.mk (below_step (hB_ HB.out) hb); clear hb hbox hg) | ((with_reducible refine gate_dst (N := 5) rfl ?_); refine box_event ?hg (N := 5) ?hd (cs := #[.int .u8 a1_0, .int .i64 a1_1, .int .i64 a1_2, .int .i64 a1_3, .int .i64 a1_4]) (t := 31) ?hr ?_; (case hd => rfl); (case hg => rfl); (case hr => first | (go_simp; done) | (go_simp; rfl)); intro gb116 hg w16 hbox hb; have BK116 := Aside0.mk (hbox); have GW116 := bz_ (hB_ HB.out) hg; have GE116 := bz_ (hB_ HB.out) hg; replace HB := Aside0.mk (below_step (hB_ HB.out) hb); have NB115_116 := bn_ BK115 hg; have NB116_115 := bm_ BK115 hg; replace BK115 := bs_ BK115 hb; clear hb hbox hg; have hnb17 := NB115_116.out; have hnc17 := NB116_115.out; have hcz18_0 : w16.cell? ⟨gb115, 0, none⟩ = some (.slice A0_0 l0_0.length c0_0) := ck_ BK115 0; have hcz18_1 : w16.cell? ⟨gb115, 1, none⟩ = some (.int .i64 a0_1) := ck_ BK115 1; have hcz18_2 : w16.cell? ⟨gb115, 2, none⟩ = some (.int .i64 a0_2) := ck_ BK115 2; have hfz18_0 := blk_frozen BK115.out 0; have hfz18_1 := blk_frozen BK115.out 1; have hfz18_2 := blk_frozen BK115.out 2; have hcz19_0 : w16.cell? ⟨gb116, 0, none⟩ = some (.int .u8 a1_0) := ck_ BK116 0; have hcz19_1 : w16.cell? ⟨gb116, 1, none⟩ = some (.int .i64 a1_1) := ck_ BK116 1; have hcz19_2 : w16.cell? ⟨gb116, 2, none⟩ = some (.int .i64 a1_2) := ck_ BK116 2; have hcz19_3 : w16.cell? ⟨gb116, 3, none⟩ = some (.int .i64 a1_3) := ck_ BK116 3; have hcz19_4 : w16.cell? ⟨gb116, 4, none⟩ = some (.int .i64 a1_4) := ck_ BK116 4; have hfz19_0 := blk_frozen BK116.out 0; have hfz19_1 := blk_frozen BK116.out 1; have hfz19_2 := blk_frozen BK116.out 2; have hfz19_3 := blk_frozen BK116.out 3; have hfz19_4 := blk_frozen BK116.out 4) | ((with_reducible refine gate_callee (f := 48) rfl ?_); refine goesL_ (some 13) rfl rfl Try.func48 (by kernel_rfl) rfl #[.agg #[.slice A0_0 l0_0.length c0_0, .int .i64 a0_1, .int .i64 a0_2], .agg #[.int .u8 a1_0, .int .i64 a1_1, .int .i64 a1_2, .int .i64 a1_3, .int .i64 a1_4], .bool a2] rfl (by (try simp only [List.map_toArray, List.map_cons, List.map_nil]); first | done | rfl | (simp only [List.length_drop, List.length_take]; rfl)) ?_; (with_reducible refine (task_asked.calls k _ _ l0_0 a0_1 a0_2 a1_0 a1_1 a1_2 a1_3 a1_4 a2 t117 _ ?side1 ?side2 A5.out).mono ?_); (case side1 => repeat (first | exact (Kd.C_below HR0_0.out HB.out) | (with_reducible refine Kd.C_alloc ?_ _) | (with_reducible refine Kd.C_drewN ?_ _) | (with_reducible refine Kd.C_drew ?_))); (case side2 => exact HC0_0.out); rintro e w20 ⟨rfl, hb⟩; refine ⟨_, rfl, ?_⟩; replace BK115 := bs_ BK115 hb; replace BK116 := bs_ BK116 hb; replace HB := Aside0.mk (below_step (hB_ HB.out) hb); (try clear hb); (try clear hb2); (try clear hk); (try clear hi); have hcz21_0 : w20.cell? ⟨gb116, 0, none⟩ = some (.int .u8 a1_0) := ck_ BK116 0; have hcz21_1 : w20.cell? ⟨gb116, 1, none⟩ = some (.int .i64 a1_1) := ck_ BK116 1; have hcz21_2 : w20.cell? ⟨gb116, 2, none⟩ = some (.int .i64 a1_2) := ck_ BK116 2; have hcz21_3 : w20.cell? ⟨gb116, 3, none⟩ = some (.int .i64 a1_3) := ck_ BK116 3; have hcz21_4 : w20.cell? ⟨gb116, 4, none⟩ = some (.int .i64 a1_4) := ck_ BK116 4; have hfz21_0 := blk_frozen BK116.out 0; have hfz21_1 := blk_frozen BK116.out 1; have hfz21_2 := blk_frozen BK116.out 2; have hfz21_3 := blk_frozen BK116.out 3; have hfz21_4 := blk_frozen BK116.out 4))
   go_ret
   exact ⟨by first | rfl | (simp [errW_none, errW_some] <;> rfl) | (simp [*, errW_none, errW_some] <;> rfl) | exact ret_ie _ | (simp [*, errW_none, errW_some, bne]; done), by repeat (first | (with_reducible first | exact HB.out | apply below_alloc | apply pw_below_drewN | apply below_drew1 | refine below_set ?_ GE115.out | refine below_set ?_ GE116.out) | exact HB.out)⟩
 ·
  rw [if_neg c6] at H
  have c6b0 : (t117 == 0) = false := beq_eq_false_iff_ne.mpr c6
  have c6b1 : (t117 != 0) = true := bne_iff_ne.mpr c6
  obtain rfl := Option.some.inj H
  go_enter Try.func37, Try.ntmps37
  go_wp2_with (first | ((with_reducible refine gate_dst (N := 4) rfl ?_); refine box_event ?hg (N := 4) ?hd (cs := #[.slice A0_0 l0_0.length c0_0, .int .i64 a0_1, .int .i64 a0_2]) (t := 24) ?hr ?_; (case hd => rfl); (case hg => rfl); (case hr => first | (go_simp; done) | (go_simp; rfl)); intro gb115 hg w22 hbox hb; have BK115 := Aside0.mk (hbox); have GW115 := bz_ (hB_ HB.out) hg; have GE115 := bz_ (hB_ HB.out) hg; replace HB := Aside0.mk (below_step (hB_ HB.out) hb); clear hb hbox hg) | ((with_reducible refine gate_dst (N := 5) rfl ?_); refine box_event ?hg (N := 5) ?hd (cs := #[.int .u8 a1_0, .int .i64 a1_1, .int .i64 a1_2, .int .i64 a1_3, .int .i64 a1_4]) (t := 31) ?hr ?_; (case hd => rfl); (case hg => rfl); (case hr => first | (go_simp; done) | (go_simp; rfl)); intro gb116 hg w23 hbox hb; have BK116 := Aside0.mk (hbox); have GW116 := bz_ (hB_ HB.out) hg; have GE116 := bz_ (hB_ HB.out) hg; replace HB := Aside0.mk (below_step (hB_ HB.out) hb); have NB115_116 := bn_ BK115 hg; have NB116_115 := bm_ BK115 hg; replace BK115 := bs_ BK115 hb; clear hb hbox hg; have hnb24 := NB115_116.out; have hnc24 := NB116_115.out; have hcz25_0 : w23.cell? ⟨gb115, 0, none⟩ = some (.slice A0_0 l0_0.length c0_0) := ck_ BK115 0; have hcz25_1 : w23.cell? ⟨gb115, 1, none⟩ = some (.int .i64 a0_1) := ck_ BK115 1; have hcz25_2 : w23.cell? ⟨gb115, 2, none⟩ = some (.int .i64 a0_2) := ck_ BK115 2; have hfz25_0 := blk_frozen BK115.out 0; have hfz25_1 := blk_frozen BK115.out 1; have hfz25_2 := blk_frozen BK115.out 2; have hcz26_0 : w23.cell? ⟨gb116, 0, none⟩ = some (.int .u8 a1_0) := ck_ BK116 0; have hcz26_1 : w23.cell? ⟨gb116, 1, none⟩ = some (.int .i64 a1_1) := ck_ BK116 1; have hcz26_2 : w23.cell? ⟨gb116, 2, none⟩ = some (.int .i64 a1_2) := ck_ BK116 2; have hcz26_3 : w23.cell? ⟨gb116, 3, none⟩ = some (.int .i64 a1_3) := ck_ BK116 3; have hcz26_4 : w23.cell? ⟨gb116, 4, none⟩ = some (.int .i64 a1_4) := ck_ BK116 4; have hfz26_0 := blk_frozen BK116.out 0; have hfz26_1 := blk_frozen BK116.out 1; have hfz26_2 := blk_frozen BK116.out 2; have hfz26_3 := blk_frozen BK116.out 3; have hfz26_4 := blk_frozen BK116.out 4) | ((with_reducible refine gate_callee (f := 48) rfl ?_); refine goesL_ (some 13) rfl rfl Try.func48 (by kernel_rfl) rfl #[.agg #[.slice A0_0 l0_0.length c0_0, .int .i64 a0_1, .int .i64 a0_2], .agg #[.int .u8 a1_0, .int .i64 a1_1, .int .i64 a1_2, .int .i64 a1_3, .int .i64 a1_4], .bool a2] rfl (by (try simp only [List.map_toArray, List.map_cons, List.map_nil]); first | done | rfl | (simp only [List.length_drop, List.length_take]; rfl)) ?_; (with_reducible refine (task_asked.calls k _ _ l0_0 a0_1 a0_2 a1_0 a1_1 a1_2 a1_3 a1_4 a2 t117 _ ?side1 ?side2 A5.out).mono ?_); (case side1 => repeat (first | exact (Kd.C_below HR0_0.out HB.out) | (with_reducible refine Kd.C_alloc ?_ _) | (with_reducible refine Kd.C_drewN ?_ _) | (with_reducible refine Kd.C_drew ?_))); (case side2 => exact HC0_0.out); rintro e w27 ⟨rfl, hb⟩; refine ⟨_, rfl, ?_⟩; replace BK115 := bs_ BK115 hb; replace BK116 := bs_ BK116 hb; replace HB := Aside0.mk (below_step (hB_ HB.out) hb); (try clear hb); (try clear hb2); (try clear hk); (try clear hi)))
  go_ret
  exact ⟨by first | rfl | (simp [errW_none, errW_some] <;> rfl) | (simp [*, errW_none, errW_some] <;> rfl) | exact ret_ie _ | (simp [*, errW_none, errW_some, bne]; done), by repeat (first | (with_reducible first | exact HB.out | apply below_alloc | apply pw_below_drewN | apply below_drew1 | refine below_set ?_ GE115.out | refine below_set ?_ GE116.out) | exact HB.out)⟩

/-! ### task_Open: function 17 -/
def task_Open.f (k : Nat) (l0_0 : List Int) (a0_1 : Int) (a0_2 : Int) (a1_0 : Int) (a1_1 : Int) (a1_2 : Int) (a1_3 : Int) (a1_4 : Int) (a2 : Int) : Option (Int × Int × Int × Int × Int × Int) := (task_count.f a2).bind fun t121 => ((task_in.f k l0_0 a0_1 a0_2 a1_0 a1_1 a1_2 a1_3 a1_4 t121 0).bind fun t122 => (if t122 = 0 then (some (1, 0, 0, 0, a2, 0)) else (some (0, 0, 0, 0, 0, t122))))
theorem task_Open.mono : ∀ a0 a1 a2 a3 a4 a5 a6 a7 a8 k, LeO (task_Open.f k a0 a1 a2 a3 a4 a5 a6 a7 a8) (task_Open.f (k + 1) a0 a1 a2 a3 a4 a5 a6 a7 a8) := by
 intro a0 a1 a2 a3 a4 a5 a6 a7 a8 k
 unfold task_Open.f
 repeat' first
   | (with_reducible exact task_in.mono _ _ _ _ _ _ _ _ _ _ _)
   | (with_reducible exact LeO.refl _)
   | (with_reducible exact LeO.none _)
   | (with_reducible refine LeO.ite ?_ ?_)
   | (with_reducible refine LeO.bind ?_ (fun _ => ?_))
   | exact task_in.mono _ _ _ _ _ _ _ _ _ _ _
   | exact LeO.none _
   | refine LeO.ite ?_ ?_
   | refine LeO.bind ?_ (fun _ => ?_)
set_option maxHeartbeats 8000000 in
set_option maxRecDepth 100000 in
theorem task_Open.calls (k : Nat) (A0_0 : Option Addr) (c0_0 : Nat) (l0_0 : List Int) (a0_1 : Int) (a0_2 : Int) (a1_0 : Int) (a1_1 : Int) (a1_2 : Int) (a1_3 : Int) (a1_4 : Int) (a2 : Int) (r1 : Int) (r2 : Int) (r3 : Int) (r4 : Int) (r5 : Int) (r6 : Int) (w : World) (hr0_0 : Kd.C (Kd.int .i64) w A0_0 l0_0.length l0_0) (hc0_0 : l0_0.length ≤ c0_0) (h : task_Open.f k l0_0 a0_1 a0_2 a1_0 a1_1 a1_2 a1_3 a1_4 a2 = some (r1, r2, r3, r4, r5, r6)) :
  Calls Try.prog 17 #[.agg #[.slice A0_0 l0_0.length c0_0, .int .i64 a0_1, .int .i64 a0_2], .agg #[.int .u8 a1_0, .int .i64 a1_1, .int .i64 a1_2, .int .i64 a1_3, .int .i64 a1_4], .int .i64 a2] w fun e w' => e = .returned (.tuple #[.agg #[.int .u8 r1, .int .i64 r2, .int .i64 r3, .int .i64 r4, .int .i64 r5], .int .i64 r6]) ∧ Below w.heap.size w w' := by
 have hu24 := Try.underlying24
 have hu31 := Try.underlying31
 have HR0_0 := Aside0.mk hr0_0
 have HC0_0 := Aside0.mk hc0_0
 clear hr0_0 hc0_0
 have HB := Aside0.mk (Below.refl w.heap.size w)
 have H : ((task_count.f a2).bind fun t121 => ((task_in.f k l0_0 a0_1 a0_2 a1_0 a1_1 a1_2 a1_3 a1_4 t121 0).bind fun t122 => (if t122 = 0 then (some (1, 0, 0, 0, a2, 0)) else (some (0, 0, 0, 0, 0, t122))))) = some (r1, r2, r3, r4, r5, r6) := h
 clear h
 replace H := Option.bind_eq_some_iff.mp H
 obtain ⟨t121, A40, H⟩ := H
 replace H : ((task_in.f k l0_0 a0_1 a0_2 a1_0 a1_1 a1_2 a1_3 a1_4 t121 0).bind fun t122 => (if t122 = 0 then (some (1, 0, 0, 0, a2, 0)) else (some (0, 0, 0, 0, 0, t122)))) = some (r1, r2, r3, r4, r5, r6) := H
 have A4 := Aside0.mk A40
 clear A40
 replace H := Option.bind_eq_some_iff.mp H
 obtain ⟨t122, A50, H⟩ := H
 replace H : (if t122 = 0 then (some (1, 0, 0, 0, a2, 0)) else (some (0, 0, 0, 0, 0, t122))) = some (r1, r2, r3, r4, r5, r6) := H
 have A5 := Aside0.mk A50
 clear A50
 by_cases c6 : t122 = 0
 ·
  rw [if_pos c6] at H
  have c6b0 : (t122 == 0) = true := beq_iff_eq.mpr c6
  have c6b1 : (t122 != 0) = false := bne_eq_false_iff_eq.mpr c6
  clear c6
  simp only [Option.some.injEq, Prod.mk.injEq] at H
  obtain ⟨rfl, rfl, rfl, rfl, rfl, rfl⟩ := H
  go_enter Try.func17, Try.ntmps17
  try go_wp2_with (first | ((with_reducible refine gate_dst (N := 3) rfl ?_); refine box_event ?hg (N := 3) ?hd (cs := #[.slice A0_0 l0_0.length c0_0, .int .i64 a0_1, .int .i64 a0_2]) (t := 24) ?hr ?_; (case hd => rfl); (case hg => rfl); (case hr => first | (go_simp; done) | (go_simp; rfl)); intro gb118 hg w7 hbox hb; have BK118 := Aside0.mk (hbox); have GW118 := bz_ (hB_ HB.out) hg; have GE118 := bz_ (hB_ HB.out) hg; replace HB := Aside0.mk (below_step (hB_ HB.out) hb); clear hb hbox hg) | ((with_reducible refine gate_dst (N := 4) rfl ?_); refine box_event ?hg (N := 4) ?hd (cs := #[.int .u8 a1_0, .int .i64 a1_1, .int .i64 a1_2, .int .i64 a1_3, .int .i64 a1_4]) (t := 31) ?hr ?_; (case hd => rfl); (case hg => rfl); (case hr => first | (go_simp; done) | (go_simp; rfl)); intro gb119 hg w8 hbox hb; have BK119 := Aside0.mk (hbox); have GW119 := bz_ (hB_ HB.out) hg; have GE119 := bz_ (hB_ HB.out) hg; replace HB := Aside0.mk (below_step (hB_ HB.out) hb); have NB118_119 := bn_ BK118 hg; have NB119_118 := bm_ BK118 hg; replace BK118 := bs_ BK118 hb; clear hb hbox hg) | ((with_reducible refine gate_dst (N := 6) rfl ?_); refine box_event ?hg (N := 6) ?hd (cs := #[.int .u8 0, .int .i64 0, .int .i64 0, .int .i64 0, .int .i64 0]) (t := 31) ?hr ?_; (case hd => rfl); (case hg => rfl); (case hr => first | (go_simp; done) | (go_simp; rfl)); intro gb120 hg w9 hbox hb; have BK120 := Aside0.mk (hbox); have GW120 := bz_ (hB_ HB.out) hg; have GE120 := bz_ (hB_ HB.out) hg; replace HB := Aside0.mk (below_step (hB_ HB.out) hb); have NB118_120 := bn_ BK118 hg; have NB120_118 := bm_ BK118 hg; replace BK118 := bs_ BK118 hb; have NB119_120 := bn_ BK119 hg; have NB120_119 := bm_ BK119 hg; replace BK119 := bs_ BK119 hb; clear hb hbox hg))
  replace BK118 := Aside0.mk (blk_drew BK118.out)
  replace BK119 := Aside0.mk (blk_drew BK119.out)
  replace BK120 := Aside0.mk (blk_drew BK120.out)
  replace HB := Aside0.mk (below_drew1 HB.out)
  refine start_ (n := 6) (S := fun w' => w'.cell? ⟨gb118, 0, none⟩ = some (.slice A0_0 l0_0.length c0_0) ∧ w'.cell? ⟨gb118, 1, none⟩ = some (.int .i64 a0_1) ∧ w'.cell? ⟨gb118, 2, none⟩ = some (.int .i64 a0_2) ∧ w'.cell? ⟨gb119, 0, none⟩ = some (.int .u8 a1_0) ∧ w'.cell? ⟨gb119, 1, none⟩ = some (.int .i64 a1_1) ∧ w'.cell? ⟨gb119, 2, none⟩ = some (.int .i64 a1_2) ∧ w'.cell? ⟨gb119, 3, none⟩ = some (.int .i64 a1_3) ∧ w'.cell? ⟨gb119, 4, none⟩ = some (.int .i64 a1_4)) (ds := []) (b_ 6 0) (by kernel_rfl) rfl rfl ⟨ck_ BK118 0, ck_ BK118 1, ck_ BK118 2, ck_ BK119 0, ck_ BK119 1, ck_ BK119 2, ck_ BK119 3, ck_ BK119 4⟩ (fun hHeld => ?_)
  generalize w9.drew = w10 at BK118 BK119 BK120 HB hHeld ⊢
  refine pure_ (i := 2) (N := some 11) (v := ?_) (a' := ?_) (b_ 6 4) rfl rfl (by kernel_rfl) (fun _ _ _ h => h) (Or.inl ⟨by rfl, ?_⟩) ?_ ?_
  rotate_left
  ·
   intro w'
   go_simp
   with_reducible rfl
  rotate_left
  ·
   simp only [Act.put, sa_, s0_, s1_, i64_w, i32_w]
   rfl
  refine take_ (i := 0) (N := some 9) (v := ?_) (a' := ?_) (b_ 6 5) rfl rfl (by kernel_rfl) (fun _ _ _ h => h) (Or.inl ⟨by rfl, ?_⟩) hHeld ?_ ?_
  rotate_left
  ·
   rintro w' ⟨s0, s1, s2, s3, s4, s5, s6, s7⟩
   go_simp
   with_reducible rfl
  rotate_left
  ·
   simp only [Act.put, sa_, s0_, s1_, i64_w, i32_w]
   rfl
  refine take_ (i := 1) (N := some 10) (v := ?_) (a' := ?_) (b_ 6 7) rfl rfl (by kernel_rfl) (fun _ _ _ h => h) (Or.inl ⟨by rfl, ?_⟩) hHeld ?_ ?_
  rotate_left
  ·
   rintro w' ⟨s0, s1, s2, s3, s4, s5, s6, s7⟩
   go_simp
   with_reducible rfl
  rotate_left
  ·
   simp only [Act.put, sa_, s0_, s1_, i64_w, i32_w]
   rfl
  refine one_ (i := 3) (N := some 12) (b_ 6 15) rfl rfl (by kernel_rfl) (by decide) (fun K hK => ?_)
  refine goes_ Try.func39 (by kernel_rfl) rfl #[.int .i64 a2] (by rfl) rfl rfl (by (try simp only [List.map_toArray, List.map_cons, List.map_nil]); first | done | rfl | (simp only [List.length_drop, List.length_take]; rfl)) ?_
  with_reducible refine (task_count.calls a2 t121 _ A4.out).mono ?_
  rintro e w' ⟨rfl, ⟨nd, rfl⟩⟩
  refine ⟨_, rfl, ?_⟩
  refine hK.out _ _ ⟨ck_ BK118 0, ck_ BK118 1, ck_ BK118 2, ck_ BK119 0, ck_ BK119 1, ck_ BK119 2, ck_ BK119 3, ck_ BK119 4⟩ (fun hHeld => ?_)
  clear hK K
  refine norm_ (a' := ?_) ?_ ?_
  rotate_left
  ·
   show Act.put _ (some 12) _ = _
   simp only [Act.put, sa_, s0_, s1_, i64_w, i32_w]
   rfl
  refine one_ (i := 4) (N := some 13) (b_ 6 31) rfl rfl (by kernel_rfl) (by decide) (fun K hK => ?_)
  refine goes_ Try.func37 (by kernel_rfl) rfl #[.agg #[.slice A0_0 l0_0.length c0_0, .int .i64 a0_1, .int .i64 a0_2], .agg #[.int .u8 a1_0, .int .i64 a1_1, .int .i64 a1_2, .int .i64 a1_3, .int .i64 a1_4], .bool t121, .int .u8 0] (by rfl) rfl rfl (by (try simp only [List.map_toArray, List.map_cons, List.map_nil]); first | done | rfl | (simp only [List.length_drop, List.length_take]; rfl)) ?_
  with_reducible refine (task_in.calls k _ _ l0_0 a0_1 a0_2 a1_0 a1_1 a1_2 a1_3 a1_4 t121 0 t122 _ ?side1 ?side2 A5.out).mono ?_
  (case side1 => repeat (first | exact (Kd.C_below HR0_0.out (by repeat (first | (with_reducible first | exact HB.out | apply below_alloc | apply pw_below_drewN | apply below_drew1 | refine below_set ?_ GE118.out | refine below_set ?_ GE119.out | refine below_set ?_ GE120.out) | exact HB.out))) | (with_reducible refine Kd.C_alloc ?_ _) | (with_reducible refine Kd.C_drewN ?_ _) | (with_reducible refine Kd.C_drew ?_)))
  (case side2 => exact HC0_0.out)
  rintro e w11 ⟨rfl, hb⟩
  refine ⟨_, rfl, ?_⟩
  replace BK118 := bs_ BK118 hb
  replace BK119 := bs_ BK119 hb
  replace BK120 := bs_ BK120 hb
  replace HB := Aside0.mk (below_step (hB_ HB.out) hb)
  (try clear hb)
  (try clear hb2)
  (try clear hk)
  (try clear hi)
  refine hK.out _ _ ⟨ck_ BK118 0, ck_ BK118 1, ck_ BK118 2, ck_ BK119 0, ck_ BK119 1, ck_ BK119 2, ck_ BK119 3, ck_ BK119 4⟩ (fun hHeld => ?_)
  clear hK K
  refine norm_ (a' := ?_) ?_ ?_
  rotate_left
  ·
   show Act.put _ (some 13) _ = _
   simp only [Act.put, sa_, s0_, s1_, i64_w, i32_w]
   rfl
  refine pure_ (i := 5) (N := some 8) (v := ?_) (a' := ?_) (b_ 6 63) rfl rfl (by kernel_rfl) (fun _ _ _ h => h) (Or.inl ⟨by rfl, ?_⟩) ?_ ?_
  rotate_left
  ·
   intro w'
   go_simp
   with_reducible rfl
  rotate_left
  ·
   simp only [Act.put, sa_, s0_, s1_, i64_w, i32_w]
   rfl
  refine done_ (by kernel_rfl) ?_
  have hcz14_0 : w11.cell? ⟨gb120, 0, none⟩ = some (.int .u8 0) := ck_ BK120 0
  have hcz14_1 : w11.cell? ⟨gb120, 1, none⟩ = some (.int .i64 0) := ck_ BK120 1
  have hcz14_2 : w11.cell? ⟨gb120, 2, none⟩ = some (.int .i64 0) := ck_ BK120 2
  have hcz14_3 : w11.cell? ⟨gb120, 3, none⟩ = some (.int .i64 0) := ck_ BK120 3
  have hcz14_4 : w11.cell? ⟨gb120, 4, none⟩ = some (.int .i64 0) := ck_ BK120 4
  have hfz14_0 := blk_frozen BK120.out 0
  have hfz14_1 := blk_frozen BK120.out 1
  have hfz14_2 := blk_frozen BK120.out 2
  have hfz14_3 := blk_frozen BK120.out 3
  have hfz14_4 := blk_frozen BK120.out 4
  try go_wp2
  refine bodyPost_ret (results_ct rfl _ _ gb120 31 #[.int .u8 1, .int .i64 0, .int .i64 0, .int .i64 0, .int .i64 a2] (0, 0) _ rfl (by (with_reducible repeat (first | refine blk_drewN ?_ _ | refine blk_drew ?_ | refine blk_alloc ?_ _)); refine blk_put (cs := #[.int .u8 1, .int .i64 0, .int .i64 0, .int .i64 0, .int .i64 0]) ?_ 4 _ rfl; (with_reducible repeat (first | refine blk_drewN ?_ _ | refine blk_drew ?_ | refine blk_alloc ?_ _)); refine blk_put (cs := #[.int .u8 1, .int .i64 0, .int .i64 0, .int .i64 0, .int .i64 0]) ?_ 3 _ rfl; (with_reducible repeat (first | refine blk_drewN ?_ _ | refine blk_drew ?_ | refine blk_alloc ?_ _)); refine blk_put (cs := #[.int .u8 1, .int .i64 0, .int .i64 0, .int .i64 0, .int .i64 0]) ?_ 2 _ rfl; (with_reducible repeat (first | refine blk_drewN ?_ _ | refine blk_drew ?_ | refine blk_alloc ?_ _)); refine blk_put (cs := #[.int .u8 1, .int .i64 0, .int .i64 0, .int .i64 0, .int .i64 0]) ?_ 1 _ rfl; (with_reducible repeat (first | refine blk_drewN ?_ _ | refine blk_drew ?_ | refine blk_alloc ?_ _)); refine blk_put (cs := #[.int .u8 0, .int .i64 0, .int .i64 0, .int .i64 0, .int .i64 0]) ?_ 0 _ rfl; (with_reducible repeat (first | refine blk_drewN ?_ _ | refine blk_drew ?_ | refine blk_alloc ?_ _)); exact BK120.out) Try.underlying31 rfl (by kernel_rfl)) rfl ?_
  exact ⟨by first | rfl | (simp [errW_none, errW_some] <;> rfl) | (simp [*, errW_none, errW_some] <;> rfl) | exact ret_ie _ | (simp [*, errW_none, errW_some, bne]; done), by repeat (first | (with_reducible first | exact HB.out | apply below_alloc | apply pw_below_drewN | apply below_drew1 | refine below_set ?_ GE118.out | refine below_set ?_ GE119.out | refine below_set ?_ GE120.out) | exact HB.out)⟩
 ·
  rw [if_neg c6] at H
  have c6b0 : (t122 == 0) = false := beq_eq_false_iff_ne.mpr c6
  have c6b1 : (t122 != 0) = true := bne_iff_ne.mpr c6
  simp only [Option.some.injEq, Prod.mk.injEq] at H
  obtain ⟨rfl, rfl, rfl, rfl, rfl, rfl⟩ := H
  go_enter Try.func17, Try.ntmps17
  try go_wp2_with (first | ((with_reducible refine gate_dst (N := 3) rfl ?_); refine box_event ?hg (N := 3) ?hd (cs := #[.slice A0_0 l0_0.length c0_0, .int .i64 a0_1, .int .i64 a0_2]) (t := 24) ?hr ?_; (case hd => rfl); (case hg => rfl); (case hr => first | (go_simp; done) | (go_simp; rfl)); intro gb118 hg w15 hbox hb; have BK118 := Aside0.mk (hbox); have GW118 := bz_ (hB_ HB.out) hg; have GE118 := bz_ (hB_ HB.out) hg; replace HB := Aside0.mk (below_step (hB_ HB.out) hb); clear hb hbox hg) | ((with_reducible refine gate_dst (N := 4) rfl ?_); refine box_event ?hg (N := 4) ?hd (cs := #[.int .u8 a1_0, .int .i64 a1_1, .int .i64 a1_2, .int .i64 a1_3, .int .i64 a1_4]) (t := 31) ?hr ?_; (case hd => rfl); (case hg => rfl); (case hr => first | (go_simp; done) | (go_simp; rfl)); intro gb119 hg w16 hbox hb; have BK119 := Aside0.mk (hbox); have GW119 := bz_ (hB_ HB.out) hg; have GE119 := bz_ (hB_ HB.out) hg; replace HB := Aside0.mk (below_step (hB_ HB.out) hb); have NB118_119 := bn_ BK118 hg; have NB119_118 := bm_ BK118 hg; replace BK118 := bs_ BK118 hb; clear hb hbox hg) | ((with_reducible refine gate_dst (N := 6) rfl ?_); refine box_event ?hg (N := 6) ?hd (cs := #[.int .u8 0, .int .i64 0, .int .i64 0, .int .i64 0, .int .i64 0]) (t := 31) ?hr ?_; (case hd => rfl); (case hg => rfl); (case hr => first | (go_simp; done) | (go_simp; rfl)); intro gb120 hg w17 hbox hb; have BK120 := Aside0.mk (hbox); have GW120 := bz_ (hB_ HB.out) hg; have GE120 := bz_ (hB_ HB.out) hg; replace HB := Aside0.mk (below_step (hB_ HB.out) hb); have NB118_120 := bn_ BK118 hg; have NB120_118 := bm_ BK118 hg; replace BK118 := bs_ BK118 hb; have NB119_120 := bn_ BK119 hg; have NB120_119 := bm_ BK119 hg; replace BK119 := bs_ BK119 hb; clear hb hbox hg))
  replace BK118 := Aside0.mk (blk_drew BK118.out)
  replace BK119 := Aside0.mk (blk_drew BK119.out)
  replace BK120 := Aside0.mk (blk_drew BK120.out)
  replace HB := Aside0.mk (below_drew1 HB.out)
  refine start_ (n := 6) (S := fun w' => w'.cell? ⟨gb118, 0, none⟩ = some (.slice A0_0 l0_0.length c0_0) ∧ w'.cell? ⟨gb118, 1, none⟩ = some (.int .i64 a0_1) ∧ w'.cell? ⟨gb118, 2, none⟩ = some (.int .i64 a0_2) ∧ w'.cell? ⟨gb119, 0, none⟩ = some (.int .u8 a1_0) ∧ w'.cell? ⟨gb119, 1, none⟩ = some (.int .i64 a1_1) ∧ w'.cell? ⟨gb119, 2, none⟩ = some (.int .i64 a1_2) ∧ w'.cell? ⟨gb119, 3, none⟩ = some (.int .i64 a1_3) ∧ w'.cell? ⟨gb119, 4, none⟩ = some (.int .i64 a1_4)) (ds := []) (b_ 6 0) (by kernel_rfl) rfl rfl ⟨ck_ BK118 0, ck_ BK118 1, ck_ BK118 2, ck_ BK119 0, ck_ BK119 1, ck_ BK119 2, ck_ BK119 3, ck_ BK119 4⟩ (fun hHeld => ?_)
  generalize w17.drew = w18 at BK118 BK119 BK120 HB hHeld ⊢
  refine pure_ (i := 2) (N := some 11) (v := ?_) (a' := ?_) (b_ 6 4) rfl rfl (by kernel_rfl) (fun _ _ _ h => h) (Or.inl ⟨by rfl, ?_⟩) ?_ ?_
  rotate_left
  ·
   intro w'
   go_simp
   with_reducible rfl
  rotate_left
  ·
   simp only [Act.put, sa_, s0_, s1_, i64_w, i32_w]
   rfl
  refine take_ (i := 0) (N := some 9) (v := ?_) (a' := ?_) (b_ 6 5) rfl rfl (by kernel_rfl) (fun _ _ _ h => h) (Or.inl ⟨by rfl, ?_⟩) hHeld ?_ ?_
  rotate_left
  ·
   rintro w' ⟨s0, s1, s2, s3, s4, s5, s6, s7⟩
   go_simp
   with_reducible rfl
  rotate_left
  ·
   simp only [Act.put, sa_, s0_, s1_, i64_w, i32_w]
   rfl
  refine take_ (i := 1) (N := some 10) (v := ?_) (a' := ?_) (b_ 6 7) rfl rfl (by kernel_rfl) (fun _ _ _ h => h) (Or.inl ⟨by rfl, ?_⟩) hHeld ?_ ?_
  rotate_left
  ·
   rintro w' ⟨s0, s1, s2, s3, s4, s5, s6, s7⟩
   go_simp
   with_reducible rfl
  rotate_left
  ·
   simp only [Act.put, sa_, s0_, s1_, i64_w, i32_w]
   rfl
  refine one_ (i := 3) (N := some 12) (b_ 6 15) rfl rfl (by kernel_rfl) (by decide) (fun K hK => ?_)
  refine goes_ Try.func39 (by kernel_rfl) rfl #[.int .i64 a2] (by rfl) rfl rfl (by (try simp only [List.map_toArray, List.map_cons, List.map_nil]); first | done | rfl | (simp only [List.length_drop, List.length_take]; rfl)) ?_
  with_reducible refine (task_count.calls a2 t121 _ A4.out).mono ?_
  rintro e w' ⟨rfl, ⟨nd, rfl⟩⟩
  refine ⟨_, rfl, ?_⟩
  refine hK.out _ _ ⟨ck_ BK118 0, ck_ BK118 1, ck_ BK118 2, ck_ BK119 0, ck_ BK119 1, ck_ BK119 2, ck_ BK119 3, ck_ BK119 4⟩ (fun hHeld => ?_)
  clear hK K
  refine norm_ (a' := ?_) ?_ ?_
  rotate_left
  ·
   show Act.put _ (some 12) _ = _
   simp only [Act.put, sa_, s0_, s1_, i64_w, i32_w]
   rfl
  refine one_ (i := 4) (N := some 13) (b_ 6 31) rfl rfl (by kernel_rfl) (by decide) (fun K hK => ?_)
  refine goes_ Try.func37 (by kernel_rfl) rfl #[.agg #[.slice A0_0 l0_0.length c0_0, .int .i64 a0_1, .int .i64 a0_2], .agg #[.int .u8 a1_0, .int .i64 a1_1, .int .i64 a1_2, .int .i64 a1_3, .int .i64 a1_4], .bool t121, .int .u8 0] (by rfl) rfl rfl (by (try simp only [List.map_toArray, List.map_cons, List.map_nil]); first | done | rfl | (simp only [List.length_drop, List.length_take]; rfl)) ?_
  with_reducible refine (task_in.calls k _ _ l0_0 a0_1 a0_2 a1_0 a1_1 a1_2 a1_3 a1_4 t121 0 t122 _ ?side1 ?side2 A5.out).mono ?_
  (case side1 => repeat (first | exact (Kd.C_below HR0_0.out (by repeat (first | (with_reducible first | exact HB.out | apply below_alloc | apply pw_below_drewN | apply below_drew1 | refine below_set ?_ GE118.out | refine below_set ?_ GE119.out | refine below_set ?_ GE120.out) | exact HB.out))) | (with_reducible refine Kd.C_alloc ?_ _) | (with_reducible refine Kd.C_drewN ?_ _) | (with_reducible refine Kd.C_drew ?_)))
  (case side2 => exact HC0_0.out)
  rintro e w19 ⟨rfl, hb⟩
  refine ⟨_, rfl, ?_⟩
  replace BK118 := bs_ BK118 hb
  replace BK119 := bs_ BK119 hb
  replace BK120 := bs_ BK120 hb
  replace HB := Aside0.mk (below_step (hB_ HB.out) hb)
  (try clear hb)
  (try clear hb2)
  (try clear hk)
  (try clear hi)
  refine hK.out _ _ ⟨ck_ BK118 0, ck_ BK118 1, ck_ BK118 2, ck_ BK119 0, ck_ BK119 1, ck_ BK119 2, ck_ BK119 3, ck_ BK119 4⟩ (fun hHeld => ?_)
  clear hK K
  refine norm_ (a' := ?_) ?_ ?_
  rotate_left
  ·
   show Act.put _ (some 13) _ = _
   simp only [Act.put, sa_, s0_, s1_, i64_w, i32_w]
   rfl
  refine pure_ (i := 5) (N := some 8) (v := ?_) (a' := ?_) (b_ 6 63) rfl rfl (by kernel_rfl) (fun _ _ _ h => h) (Or.inl ⟨by rfl, ?_⟩) ?_ ?_
  rotate_left
  ·
   intro w'
   go_simp
   with_reducible rfl
  rotate_left
  ·
   simp only [Act.put, sa_, s0_, s1_, i64_w, i32_w]
   rfl
  refine done_ (by kernel_rfl) ?_
  have hcz22_0 : w19.cell? ⟨gb120, 0, none⟩ = some (.int .u8 0) := ck_ BK120 0
  have hcz22_1 : w19.cell? ⟨gb120, 1, none⟩ = some (.int .i64 0) := ck_ BK120 1
  have hcz22_2 : w19.cell? ⟨gb120, 2, none⟩ = some (.int .i64 0) := ck_ BK120 2
  have hcz22_3 : w19.cell? ⟨gb120, 3, none⟩ = some (.int .i64 0) := ck_ BK120 3
  have hcz22_4 : w19.cell? ⟨gb120, 4, none⟩ = some (.int .i64 0) := ck_ BK120 4
  have hfz22_0 := blk_frozen BK120.out 0
  have hfz22_1 := blk_frozen BK120.out 1
  have hfz22_2 := blk_frozen BK120.out 2
  have hfz22_3 := blk_frozen BK120.out 3
  have hfz22_4 := blk_frozen BK120.out 4
  try go_wp2
  refine bodyPost_ret (results_ct rfl _ _ gb120 31 #[.int .u8 0, .int .i64 0, .int .i64 0, .int .i64 0, .int .i64 0] (0, 0) _ rfl (by (with_reducible repeat (first | refine blk_drewN ?_ _ | refine blk_drew ?_ | refine blk_alloc ?_ _)); refine blk_put (cs := #[.int .u8 0, .int .i64 0, .int .i64 0, .int .i64 0, .int .i64 0]) ?_ 4 _ rfl; (with_reducible repeat (first | refine blk_drewN ?_ _ | refine blk_drew ?_ | refine blk_alloc ?_ _)); refine blk_put (cs := #[.int .u8 0, .int .i64 0, .int .i64 0, .int .i64 0, .int .i64 0]) ?_ 3 _ rfl; (with_reducible repeat (first | refine blk_drewN ?_ _ | refine blk_drew ?_ | refine blk_alloc ?_ _)); refine blk_put (cs := #[.int .u8 0, .int .i64 0, .int .i64 0, .int .i64 0, .int .i64 0]) ?_ 2 _ rfl; (with_reducible repeat (first | refine blk_drewN ?_ _ | refine blk_drew ?_ | refine blk_alloc ?_ _)); refine blk_put (cs := #[.int .u8 0, .int .i64 0, .int .i64 0, .int .i64 0, .int .i64 0]) ?_ 1 _ rfl; (with_reducible repeat (first | refine blk_drewN ?_ _ | refine blk_drew ?_ | refine blk_alloc ?_ _)); refine blk_put (cs := #[.int .u8 0, .int .i64 0, .int .i64 0, .int .i64 0, .int .i64 0]) ?_ 0 _ rfl; (with_reducible repeat (first | refine blk_drewN ?_ _ | refine blk_drew ?_ | refine blk_alloc ?_ _)); exact BK120.out) Try.underlying31 rfl (by kernel_rfl)) rfl ?_
  exact ⟨by first | rfl | (simp [errW_none, errW_some] <;> rfl) | (simp [*, errW_none, errW_some] <;> rfl) | exact ret_ie _ | (simp [*, errW_none, errW_some, bne]; done), by repeat (first | (with_reducible first | exact HB.out | apply below_alloc | apply pw_below_drewN | apply below_drew1 | refine below_set ?_ GE118.out | refine below_set ?_ GE119.out | refine below_set ?_ GE120.out) | exact HB.out)⟩

end Go.Proofs.Ytbgfjhnbmfgccaa.R

/- Contracts of Go functions and what they come to, over the translation of this seat: made by a program of this session (print2.py). -/
import Derived.Test.YtoplhlacdjlidaaRx0
import Derived.Test.YtoplhlacdjlidaaRx4
import Derived.Test.YtoplhlacdjlidaaRx17
import Derived.Test.YtoplhlacdjlidaaRx18
namespace Go.Proofs.Ytoplhlacdjlidaa.R
open Go.RowKit Go.Proofs.Ytoplhlacdjlidaa.Co Go.Proofs.Ytoplhlacdjlidaa.Ret Go.Proofs.Ytoplhlacdjlidaa.Plain Go.Proofs.Ytoplhlacdjlidaa.Box Go.Proofs.YtoplhlacdjlidaaW.PrintWords Go.Proofs.YtoplhlacdjlidaaW.PrintLast Go.Proofs.YtoplhlacdjlidaaW.PrintMore
attribute [local go_sem] max2_int min2_int max_two min_two max_three min_three max_four min_four   -- for this text's walks alone
set_option linter.unusedVariables false
set_option linter.unusedSimpArgs false

/-! ### millhandlaw23_DagGoes: function 5 -/
mutual
def millhandlaw23_DagGoes.j0 : Nat → List Int → Bool → Bool → List (S40) → Option (Bool)
 | 0, _, _, _, _ => none
 | k + 1, x1, x5, x24, x327000 => if x24 = true then (some x5) else (if 0 ≤ (x327000.length : Int) then (if ((x327000.length : Int) : Int).toNat ≤ 281474976710656 then (millhandlaw23_DagGoes.l0 k x1 (List.replicate ((x327000.length : Int) : Int).toNat false) 0 x327000) else (none)) else (none))
def millhandlaw23_DagGoes.l0 : Nat → List Int → List Bool → Int → List (S40) → Option (Bool)
 | 0, _, _, _, _ => none
 | k + 1, x1, x6, x7, x327000 => if x7 < (x327000.length : Int) then ((dag_Ready.f k x327000 x6).bind fun bt337 => (if bt337.2 = 0 then (millhandlaw23_DagGoes.j2 k x1 x6 x7 bt337.1 ((bt337.1.length : Int) == 0) x327000) else (millhandlaw23_DagGoes.j2 k x1 x6 x7 bt337.1 true x327000))) else ((dag_Ready.f k x327000 x6).bind fun bt333 => (if bt333.2 = 0 then (some ((bt333.1.length : Int) == 0)) else (some false)))
def millhandlaw23_DagGoes.j2 : Nat → List Int → List Bool → Int → List Int → Bool → List (S40) → Option (Bool)
 | 0, _, _, _, _, _, _ => none
 | k + 1, x1, x6, x7, x8, x49, x327000 => if x49 = true then (some false) else (if (x1.length : Int) > 0 then (if (x1.length : Int) = 0 then (none) else (if 0 ≤ (Int.tmod x7 (x1.length : Int)) then (if (Int.tmod x7 (x1.length : Int)) < (x1.length : Int) then (if (x8.length : Int) = 0 then (none) else (if 0 ≤ (Int.tmod (wrap64 (rd x1 (Int.tmod x7 (x1.length : Int)))) (x8.length : Int)) then (if (Int.tmod (wrap64 (rd x1 (Int.tmod x7 (x1.length : Int)))) (x8.length : Int)) < (x8.length : Int) then (if 0 ≤ (rd x8 (Int.tmod (wrap64 (rd x1 (Int.tmod x7 (x1.length : Int)))) (x8.length : Int))) then (if (rd x8 (Int.tmod (wrap64 (rd x1 (Int.tmod x7 (x1.length : Int)))) (x8.length : Int))) < (x6.length : Int) then (if rdOf false x6 (rd x8 (Int.tmod (wrap64 (rd x1 (Int.tmod x7 (x1.length : Int)))) (x8.length : Int))) = true then (some false) else (millhandlaw23_DagGoes.l0 k x1 (x6.set ((rd x8 (Int.tmod (wrap64 (rd x1 (Int.tmod x7 (x1.length : Int)))) (x8.length : Int))) : Int).toNat true) (wrap64 (x7 + 1)) x327000)) else (none)) else (none)) else (none)) else (none))) else (none)) else (none))) else (if 0 < (x8.length : Int) then (if 0 ≤ (rd x8 0) then (if (rd x8 0) < (x6.length : Int) then (if rdOf false x6 (rd x8 0) = true then (some false) else (millhandlaw23_DagGoes.l0 k x1 (x6.set ((rd x8 0) : Int).toNat true) (wrap64 (x7 + 1)) x327000)) else (none)) else (none)) else (none)))
end
def millhandlaw23_DagGoes.f (k : Nat) (l0_0 : List (S40)) (l1 : List Int) : Option (Bool) := (millhandlaw23_alive.f k).bind fun t327 => ((millhandref23_Great.f k l0_0).bind fun t328 => (if t328 = true then (millhandlaw23_DagGoes.j0 k l1 t327 true l0_0) else ((dag_Check.f k l0_0).bind fun t329 => (if t329 = 0 then (millhandlaw23_DagGoes.j0 k l1 t327 (!t327) l0_0) else (millhandlaw23_DagGoes.j0 k l1 t327 true l0_0)))))
theorem millhandlaw23_DagGoes.mono_l : ∀ k, (∀ y0 y1 y2 y3, LeO (millhandlaw23_DagGoes.j0 k y0 y1 y2 y3) (millhandlaw23_DagGoes.j0 (k + 1) y0 y1 y2 y3)) ∧ (∀ y0 y1 y2 y3, LeO (millhandlaw23_DagGoes.l0 k y0 y1 y2 y3) (millhandlaw23_DagGoes.l0 (k + 1) y0 y1 y2 y3)) ∧ (∀ y0 y1 y2 y3 y4 y5, LeO (millhandlaw23_DagGoes.j2 k y0 y1 y2 y3 y4 y5) (millhandlaw23_DagGoes.j2 (k + 1) y0 y1 y2 y3 y4 y5))
 | 0 => ⟨fun _ _ _ _ r h => by simp [millhandlaw23_DagGoes.j0] at h, fun _ _ _ _ r h => by simp [millhandlaw23_DagGoes.l0] at h, fun _ _ _ _ _ _ r h => by simp [millhandlaw23_DagGoes.j2] at h⟩
 | k + 1 => by
  obtain ⟨ih0, ih1, ih2⟩ := millhandlaw23_DagGoes.mono_l k
  refine ⟨?_, ?_, ?_⟩
  ·
   intro y0 y1 y2 y3
   unfold millhandlaw23_DagGoes.j0
   repeat' first
   | (with_reducible exact ih0 _ _ _ _)
   | (with_reducible exact ih1 _ _ _ _)
   | (with_reducible exact ih2 _ _ _ _ _ _)
   | (with_reducible exact dag_Check.mono _ _)
   | (with_reducible exact dag_Ready.mono _ _ _)
   | (with_reducible exact millhandlaw23_alive.mono _)
   | (with_reducible exact millhandref23_Great.mono _ _)
   | (with_reducible exact LeO.refl _)
   | (with_reducible exact LeO.none _)
   | (with_reducible refine LeO.ite ?_ ?_)
   | (with_reducible refine LeO.bind ?_ (fun _ => ?_))
   | exact ih0 _ _ _ _
   | exact ih1 _ _ _ _
   | exact ih2 _ _ _ _ _ _
   | exact dag_Check.mono _ _
   | exact dag_Ready.mono _ _ _
   | exact millhandlaw23_alive.mono _
   | exact millhandref23_Great.mono _ _
   | exact LeO.none _
   | refine LeO.ite ?_ ?_
   | refine LeO.bind ?_ (fun _ => ?_)
  ·
   intro y0 y1 y2 y3
   unfold millhandlaw23_DagGoes.l0
   repeat' first
   | (with_reducible exact ih0 _ _ _ _)
   | (with_reducible exact ih1 _ _ _ _)
   | (with_reducible exact ih2 _ _ _ _ _ _)
   | (with_reducible exact dag_Check.mono _ _)
   | (with_reducible exact dag_Ready.mono _ _ _)
   | (with_reducible exact millhandlaw23_alive.mono _)
   | (with_reducible exact millhandref23_Great.mono _ _)
   | (with_reducible exact LeO.refl _)
   | (with_reducible exact LeO.none _)
   | (with_reducible refine LeO.ite ?_ ?_)
   | (with_reducible refine LeO.bind ?_ (fun _ => ?_))
   | exact ih0 _ _ _ _
   | exact ih1 _ _ _ _
   | exact ih2 _ _ _ _ _ _
   | exact dag_Check.mono _ _
   | exact dag_Ready.mono _ _ _
   | exact millhandlaw23_alive.mono _
   | exact millhandref23_Great.mono _ _
   | exact LeO.none _
   | refine LeO.ite ?_ ?_
   | refine LeO.bind ?_ (fun _ => ?_)
  ·
   intro y0 y1 y2 y3 y4 y5
   unfold millhandlaw23_DagGoes.j2
   repeat' first
   | (with_reducible exact ih0 _ _ _ _)
   | (with_reducible exact ih1 _ _ _ _)
   | (with_reducible exact ih2 _ _ _ _ _ _)
   | (with_reducible exact dag_Check.mono _ _)
   | (with_reducible exact dag_Ready.mono _ _ _)
   | (with_reducible exact millhandlaw23_alive.mono _)
   | (with_reducible exact millhandref23_Great.mono _ _)
   | (with_reducible exact LeO.refl _)
   | (with_reducible exact LeO.none _)
   | (with_reducible refine LeO.ite ?_ ?_)
   | (with_reducible refine LeO.bind ?_ (fun _ => ?_))
   | exact ih0 _ _ _ _
   | exact ih1 _ _ _ _
   | exact ih2 _ _ _ _ _ _
   | exact dag_Check.mono _ _
   | exact dag_Ready.mono _ _ _
   | exact millhandlaw23_alive.mono _
   | exact millhandref23_Great.mono _ _
   | exact LeO.none _
   | refine LeO.ite ?_ ?_
   | refine LeO.bind ?_ (fun _ => ?_)
theorem millhandlaw23_DagGoes.mono : ∀ a0 a1 k, LeO (millhandlaw23_DagGoes.f k a0 a1) (millhandlaw23_DagGoes.f (k + 1) a0 a1) := by
 intro a0 a1 k
 obtain ⟨ih0, ih1, ih2⟩ := millhandlaw23_DagGoes.mono_l k
 unfold millhandlaw23_DagGoes.f
 repeat' first
   | (with_reducible exact ih0 _ _ _ _)
   | (with_reducible exact ih1 _ _ _ _)
   | (with_reducible exact ih2 _ _ _ _ _ _)
   | (with_reducible exact dag_Check.mono _ _)
   | (with_reducible exact dag_Ready.mono _ _ _)
   | (with_reducible exact millhandlaw23_alive.mono _)
   | (with_reducible exact millhandref23_Great.mono _ _)
   | (with_reducible exact LeO.refl _)
   | (with_reducible exact LeO.none _)
   | (with_reducible refine LeO.ite ?_ ?_)
   | (with_reducible refine LeO.bind ?_ (fun _ => ?_))
   | exact ih0 _ _ _ _
   | exact ih1 _ _ _ _
   | exact ih2 _ _ _ _ _ _
   | exact dag_Check.mono _ _
   | exact dag_Ready.mono _ _ _
   | exact millhandlaw23_alive.mono _
   | exact millhandref23_Great.mono _ _
   | exact LeO.none _
   | refine LeO.ite ?_ ?_
   | refine LeO.bind ?_ (fun _ => ?_)
set_option maxHeartbeats 8000000 in
set_option maxRecDepth 100000 in
theorem millhandlaw23_DagGoes.calls (k : Nat) (A0_0 : Option Addr) (c0_0 : Nat) (l0_0 : List (S40)) (A1 : Option Addr) (c1 : Nat) (l1 : List Int) (r : Bool) (w : World) (hr0_0 : Kd.C k40 w A0_0 l0_0.length l0_0) (hc0_0 : l0_0.length ≤ c0_0) (hr1 : Kd.C (Kd.int .u8) w A1 l1.length l1) (hc1 : l1.length ≤ c1) (h : millhandlaw23_DagGoes.f k l0_0 l1 = some r) :
  Calls Try.prog 5 #[.agg #[.slice A0_0 l0_0.length c0_0], .slice A1 l1.length c1] w fun e w' => e = .returned (.bool r) ∧ Below w.heap.size w w' := by
 have hu25 := Try.underlying25
 have HR0_0 := Aside0.mk hr0_0
 have HC0_0 := Aside0.mk hc0_0
 clear hr0_0 hc0_0
 have HR1 := Aside0.mk hr1
 have HC1 := Aside0.mk hc1
 clear hr1 hc1
 have HB := Aside0.mk (Below.refl w.heap.size w)
 have H : ((millhandlaw23_alive.f k).bind fun t327 => ((millhandref23_Great.f k l0_0).bind fun t328 => (if t328 = true then (millhandlaw23_DagGoes.j0 k l1 t327 true l0_0) else ((dag_Check.f k l0_0).bind fun t329 => (if t329 = 0 then (millhandlaw23_DagGoes.j0 k l1 t327 (!t327) l0_0) else (millhandlaw23_DagGoes.j0 k l1 t327 true l0_0)))))) = some r := h
 clear h
 replace H := Option.bind_eq_some_iff.mp H
 obtain ⟨t327, A30, H⟩ := H
 replace H : ((millhandref23_Great.f k l0_0).bind fun t328 => (if t328 = true then (millhandlaw23_DagGoes.j0 k l1 t327 true l0_0) else ((dag_Check.f k l0_0).bind fun t329 => (if t329 = 0 then (millhandlaw23_DagGoes.j0 k l1 t327 (!t327) l0_0) else (millhandlaw23_DagGoes.j0 k l1 t327 true l0_0))))) = some r := H
 have A3 := Aside0.mk A30
 clear A30
 have HC4 := Aside0.mk H
 clear H
 go_enter Try.func5, Try.ntmps5
 go_upto_region 2 with (first | ((with_reducible refine gate_dst (N := 2) rfl ?_); (try (refine gate_guard (by rfl) ?_; dsimp only)); refine box_event ?hg (N := 2) ?hd (cs := #[.slice A0_0 l0_0.length c0_0]) (t := 25) ?hr ?_; (case hd => rfl); (case hg => rfl); (case hr => first | (go_simp; done) | (go_simp; rfl)); intro gb326 hg w5 hbox hb; have n0_ := Aside0.mk (below_step (by repeat (first | (with_reducible first | exact HB.out | apply below_alloc | apply pw_below_drewN | apply below_drew1) | exact HB.out)) hb); have n1_ := Aside0.mk (hbox); have n2_ := Aside0.mk ((by rw [hg]; exact (below_size (by repeat (first | (with_reducible first | exact HB.out | apply below_alloc | apply pw_below_drewN | apply below_drew1) | exact HB.out))) : w.heap.size ≤ gb326)); have n3_ := Aside0.mk ((by rw [hg]; exact (below_size (by repeat (first | (with_reducible first | exact HB.out | apply below_alloc | apply pw_below_drewN | apply below_drew1) | exact HB.out))) : w.heap.size ≤ gb326)); clear HB; have HB := n0_; have BK326 := n1_; have GW326 := n2_; have GE326 := n3_; clear n0_ n1_ n2_ n3_; clear hb hbox hg) | ((with_reducible refine gate_callee (f := 12) rfl ?_); refine goesL_ (some 13) rfl rfl Try.func12 (by kernel_rfl) rfl #[] rfl (by (try simp only [List.map_toArray, List.map_cons, List.map_nil]); first | done | rfl | (simp only [List.length_drop, List.length_take]; rfl)) ?_; (with_reducible refine (millhandlaw23_alive.calls k  t327 _ A3.out).mono ?_); rintro e w6 ⟨rfl, hb⟩; refine ⟨_, rfl, ?_⟩; have n0_ := Aside0.mk (blk_below (g := gb326) (o := .cells #[.slice A0_0 l0_0.length c0_0] 25 (0, 0)) (by (with_reducible repeat (first | refine blk_drewN ?_ _ | refine blk_drew ?_ | refine blk_alloc ?_ _)); exact BK326.out) hb); have n1_ := Aside0.mk (below_step (by repeat (first | (with_reducible first | exact HB.out | apply below_alloc | apply pw_below_drewN | apply below_drew1 | refine below_set ?_ GE326.out) | exact HB.out)) hb); clear BK326; clear HB; have BK326 := n0_; have HB := n1_; clear n0_ n1_; (try clear hb); (try clear hb2); (try clear hk); (try clear hi)))
 (try simp only [Act.put, sa_, s0_, s1_])
 go_cut [24] (fun v24 wc => ∃ (kq : Nat) (x24_3 : Bool), v24 = .bool x24_3 ∧ Aside0 (millhandlaw23_DagGoes.j0 kq l1 t327 x24_3 l0_0 = some r) ∧ Aside0 (kq ≤ k) ∧ Aside0 (wc.heap[gb326]? = some (.cells #[(.slice A0_0 l0_0.length c0_0)] 25 (0, 0))) ∧ Aside0 (Below w.heap.size w wc))
 case first =>
  have H := HC4.out
  clear HC4
  replace H := Option.bind_eq_some_iff.mp H
  obtain ⟨t328, A70, H⟩ := H
  replace H : (if t328 = true then (millhandlaw23_DagGoes.j0 k l1 t327 true l0_0) else ((dag_Check.f k l0_0).bind fun t329 => (if t329 = 0 then (millhandlaw23_DagGoes.j0 k l1 t327 (!t327) l0_0) else (millhandlaw23_DagGoes.j0 k l1 t327 true l0_0)))) = some r := H
  have A7 := Aside0.mk A70
  clear A70
  by_cases c8 : t328 = true
  ·
   subst c8
   have H1 : (millhandlaw23_DagGoes.j0 k l1 t327 true l0_0) = some r := by rw [if_pos rfl] at H; exact H
   clear H
   have H := H1
   clear H1
   have H' := Aside0.mk H
   clear H
   have hcz9_0 : w6.cell? ⟨gb326, 0, none⟩ = some (.slice A0_0 l0_0.length c0_0) := (blk_cell BK326.out 0).trans rfl
   have hfz9_0 := blk_frozen BK326.out 0
   go_wp2_with (first | ((with_reducible refine gate_callee (f := 13) rfl ?_); refine goesL_ (some 15) rfl rfl Try.func13 (by kernel_rfl) rfl #[.agg #[.slice A0_0 l0_0.length c0_0]] rfl (by (try simp only [List.map_toArray, List.map_cons, List.map_nil]); first | done | rfl | (simp only [List.length_drop, List.length_take]; rfl)) ?_; (with_reducible refine (millhandref23_Great.calls k _ _ l0_0 true _ ?side1 ?side2 A7.out).mono ?_); (case side1 => repeat (first | exact (Kd.C_below HR0_0.out HB.out) | (with_reducible refine Kd.C_alloc ?_ _) | (with_reducible refine Kd.C_drewN ?_ _) | (with_reducible refine Kd.C_drew ?_))); (case side2 => exact HC0_0.out); rintro e w10 ⟨rfl, hb⟩; refine ⟨_, rfl, ?_⟩; have n0_ := Aside0.mk (blk_below (g := gb326) (o := .cells #[.slice A0_0 l0_0.length c0_0] 25 (0, 0)) (by (with_reducible repeat (first | refine blk_drewN ?_ _ | refine blk_drew ?_ | refine blk_alloc ?_ _)); exact BK326.out) hb); have n1_ := Aside0.mk (below_step (by repeat (first | (with_reducible first | exact HB.out | apply below_alloc | apply pw_below_drewN | apply below_drew1 | refine below_set ?_ GE326.out) | exact HB.out)) hb); clear BK326; clear HB; have BK326 := n0_; have HB := n1_; clear n0_ n1_; (try clear hb); (try clear hb2); (try clear hk); (try clear hi)))
   go_meet
   case rel => exact ⟨_, (true), (by first | rfl | (simp; done) | (simp [*]; done)), H', ⟨by first | omega | exact Nat.le_refl _⟩, ⟨by (with_reducible repeat (first | refine blk_drewN ?_ _ | refine blk_drew ?_ | refine blk_alloc ?_ _)); exact BK326.out⟩, ⟨by repeat (first | (with_reducible first | exact HB.out | apply below_alloc | apply pw_below_drewN | apply below_drew1 | refine below_set ?_ GE326.out) | exact HB.out)⟩⟩
  ·
   replace c8 := Bool.eq_false_iff.mpr c8
   subst c8
   have H1 : ((dag_Check.f k l0_0).bind fun t329 => (if t329 = 0 then (millhandlaw23_DagGoes.j0 k l1 t327 (!t327) l0_0) else (millhandlaw23_DagGoes.j0 k l1 t327 true l0_0))) = some r := by rw [if_neg (show ¬ (false = true) by decide)] at H; exact H
   clear H
   have H := H1
   clear H1
   replace H := Option.bind_eq_some_iff.mp H
   obtain ⟨t329, A110, H⟩ := H
   replace H : (if t329 = 0 then (millhandlaw23_DagGoes.j0 k l1 t327 (!t327) l0_0) else (millhandlaw23_DagGoes.j0 k l1 t327 true l0_0)) = some r := H
   have A11 := Aside0.mk A110
   clear A110
   by_cases c12 : t329 = 0
   ·
    rw [if_pos c12] at H
    have c12b0 : (t329 == 0) = true := beq_iff_eq.mpr c12
    have c12b1 : (t329 != 0) = false := bne_eq_false_iff_eq.mpr c12
    clear c12
    (first | rw [c12b0] | (simp only [i64_w, i32_w]; rw [c12b0]) | skip)
    have H' := Aside0.mk H
    clear H
    have hcz13_0 : w6.cell? ⟨gb326, 0, none⟩ = some (.slice A0_0 l0_0.length c0_0) := (blk_cell BK326.out 0).trans rfl
    have hfz13_0 := blk_frozen BK326.out 0
    go_wp2_with (first | ((with_reducible refine gate_callee (f := 13) rfl ?_); refine goesL_ (some 15) rfl rfl Try.func13 (by kernel_rfl) rfl #[.agg #[.slice A0_0 l0_0.length c0_0]] rfl (by (try simp only [List.map_toArray, List.map_cons, List.map_nil]); first | done | rfl | (simp only [List.length_drop, List.length_take]; rfl)) ?_; (with_reducible refine (millhandref23_Great.calls k _ _ l0_0 false _ ?side1 ?side2 A7.out).mono ?_); (case side1 => repeat (first | exact (Kd.C_below HR0_0.out HB.out) | (with_reducible refine Kd.C_alloc ?_ _) | (with_reducible refine Kd.C_drewN ?_ _) | (with_reducible refine Kd.C_drew ?_))); (case side2 => exact HC0_0.out); rintro e w14 ⟨rfl, hb⟩; refine ⟨_, rfl, ?_⟩; have n0_ := Aside0.mk (blk_below (g := gb326) (o := .cells #[.slice A0_0 l0_0.length c0_0] 25 (0, 0)) (by (with_reducible repeat (first | refine blk_drewN ?_ _ | refine blk_drew ?_ | refine blk_alloc ?_ _)); exact BK326.out) hb); have n1_ := Aside0.mk (below_step (by repeat (first | (with_reducible first | exact HB.out | apply below_alloc | apply pw_below_drewN | apply below_drew1 | refine below_set ?_ GE326.out) | exact HB.out)) hb); clear BK326; clear HB; have BK326 := n0_; have HB := n1_; clear n0_ n1_; (try clear hb); (try clear hb2); (try clear hk); (try clear hi); have hcz15_0 : w14.cell? ⟨gb326, 0, none⟩ = some (.slice A0_0 l0_0.length c0_0) := (blk_cell BK326.out 0).trans rfl; have hfz15_0 := blk_frozen BK326.out 0) | (go_at_call 16; (with_reducible refine (dag_Check.calls k _ _ l0_0 t329 _ ?side1 ?side2 A11.out).mono ?_); (case side1 => repeat (first | exact (Kd.C_below HR0_0.out HB.out) | (with_reducible refine Kd.C_alloc ?_ _) | (with_reducible refine Kd.C_drewN ?_ _) | (with_reducible refine Kd.C_drew ?_))); (case side2 => exact HC0_0.out); rintro e w16 ⟨rfl, hb⟩; have n0_ := Aside0.mk (blk_below (g := gb326) (o := .cells #[.slice A0_0 l0_0.length c0_0] 25 (0, 0)) (by (with_reducible repeat (first | refine blk_drewN ?_ _ | refine blk_drew ?_ | refine blk_alloc ?_ _)); exact BK326.out) hb); have n1_ := Aside0.mk (below_step (by repeat (first | (with_reducible first | exact HB.out | apply below_alloc | apply pw_below_drewN | apply below_drew1 | refine below_set ?_ GE326.out) | exact HB.out)) hb); clear BK326; clear HB; have BK326 := n0_; have HB := n1_; clear n0_ n1_; (try clear hb); (try clear hb2); (try clear hk); (try clear hi)))
    go_meet
    case rel => exact ⟨_, (!t327), (by first | rfl | (simp; done) | (simp [*]; done)), H', ⟨by first | omega | exact Nat.le_refl _⟩, ⟨by (with_reducible repeat (first | refine blk_drewN ?_ _ | refine blk_drew ?_ | refine blk_alloc ?_ _)); exact BK326.out⟩, ⟨by repeat (first | (with_reducible first | exact HB.out | apply below_alloc | apply pw_below_drewN | apply below_drew1 | refine below_set ?_ GE326.out) | exact HB.out)⟩⟩
   ·
    rw [if_neg c12] at H
    have c12b0 : (t329 == 0) = false := beq_eq_false_iff_ne.mpr c12
    have c12b1 : (t329 != 0) = true := bne_iff_ne.mpr c12
    (first | rw [c12b0] | (simp only [i64_w, i32_w]; rw [c12b0]) | skip)
    have H' := Aside0.mk H
    clear H
    have hcz17_0 : w6.cell? ⟨gb326, 0, none⟩ = some (.slice A0_0 l0_0.length c0_0) := (blk_cell BK326.out 0).trans rfl
    have hfz17_0 := blk_frozen BK326.out 0
    go_wp2_with (first | ((with_reducible refine gate_callee (f := 13) rfl ?_); refine goesL_ (some 15) rfl rfl Try.func13 (by kernel_rfl) rfl #[.agg #[.slice A0_0 l0_0.length c0_0]] rfl (by (try simp only [List.map_toArray, List.map_cons, List.map_nil]); first | done | rfl | (simp only [List.length_drop, List.length_take]; rfl)) ?_; (with_reducible refine (millhandref23_Great.calls k _ _ l0_0 false _ ?side1 ?side2 A7.out).mono ?_); (case side1 => repeat (first | exact (Kd.C_below HR0_0.out HB.out) | (with_reducible refine Kd.C_alloc ?_ _) | (with_reducible refine Kd.C_drewN ?_ _) | (with_reducible refine Kd.C_drew ?_))); (case side2 => exact HC0_0.out); rintro e w18 ⟨rfl, hb⟩; refine ⟨_, rfl, ?_⟩; have n0_ := Aside0.mk (blk_below (g := gb326) (o := .cells #[.slice A0_0 l0_0.length c0_0] 25 (0, 0)) (by (with_reducible repeat (first | refine blk_drewN ?_ _ | refine blk_drew ?_ | refine blk_alloc ?_ _)); exact BK326.out) hb); have n1_ := Aside0.mk (below_step (by repeat (first | (with_reducible first | exact HB.out | apply below_alloc | apply pw_below_drewN | apply below_drew1 | refine below_set ?_ GE326.out) | exact HB.out)) hb); clear BK326; clear HB; have BK326 := n0_; have HB := n1_; clear n0_ n1_; (try clear hb); (try clear hb2); (try clear hk); (try clear hi); have hcz19_0 : w18.cell? ⟨gb326, 0, none⟩ = some (.slice A0_0 l0_0.length c0_0) := (blk_cell BK326.out 0).trans rfl; have hfz19_0 := blk_frozen BK326.out 0) | (go_at_call 16; (with_reducible refine (dag_Check.calls k _ _ l0_0 t329 _ ?side1 ?side2 A11.out).mono ?_); (case side1 => repeat (first | exact (Kd.C_below HR0_0.out HB.out) | (with_reducible refine Kd.C_alloc ?_ _) | (with_reducible refine Kd.C_drewN ?_ _) | (with_reducible refine Kd.C_drew ?_))); (case side2 => exact HC0_0.out); rintro e w20 ⟨rfl, hb⟩; have n0_ := Aside0.mk (blk_below (g := gb326) (o := .cells #[.slice A0_0 l0_0.length c0_0] 25 (0, 0)) (by (with_reducible repeat (first | refine blk_drewN ?_ _ | refine blk_drew ?_ | refine blk_alloc ?_ _)); exact BK326.out) hb); have n1_ := Aside0.mk (below_step (by repeat (first | (with_reducible first | exact HB.out | apply below_alloc | apply pw_below_drewN | apply below_drew1 | refine below_set ?_ GE326.out) | exact HB.out)) hb); clear BK326; clear HB; have BK326 := n0_; have HB := n1_; clear n0_ n1_; (try clear hb); (try clear hb2); (try clear hk); (try clear hi)))
    go_meet
    case rel => exact ⟨_, (true), (by first | rfl | (simp; done) | (simp [*]; done)), H', ⟨by first | omega | exact Nat.le_refl _⟩, ⟨by (with_reducible repeat (first | refine blk_drewN ?_ _ | refine blk_drew ?_ | refine blk_alloc ?_ _)); exact BK326.out⟩, ⟨by repeat (first | (with_reducible first | exact HB.out | apply below_alloc | apply pw_below_drewN | apply below_drew1 | refine below_set ?_ GE326.out) | exact HB.out)⟩⟩
 case rest =>
  clear HC4
  try clear c1
  try clear p2
  try clear c5
  try clear c8
  try clear c12
  try clear c12b0
  try clear c12b1
  try clear c13
  try clear hcz13_0
  try clear hcz15_0
  try clear hcz17_0
  try clear hcz19_0
  try clear hcz9_0
  try clear hfz13_0
  try clear hfz15_0
  try clear hfz17_0
  try clear hfz19_0
  try clear hfz9_0
  obtain ⟨kq, x24_3, rfl, HA, HJ3, BK326, HB⟩ := hcut
  cases kq with
  | zero => exact absurd HA.out (by simp [millhandlaw23_DagGoes.j0])
  | succ kj3 =>
   have H := HA.out
   clear HA
   simp only [millhandlaw23_DagGoes.j0] at H
   by_cases c21 : x24_3 = true
   ·
    subst c21
    have H1 : (some t327) = some r := by rw [if_pos rfl] at H; exact H
    clear H
    have H := H1
    clear H1
    obtain rfl := Option.some.inj H
    go_wp2
    go_ret
    exact ⟨by first | rfl | (simp [errW_none, errW_some] <;> rfl) | (simp [*, errW_none, errW_some] <;> rfl) | exact ret_ie _ | (simp [*, errW_none, errW_some, bne]; done), by repeat (first | (with_reducible first | exact HB.out | apply below_alloc | apply pw_below_drewN | apply below_drew1 | refine below_set ?_ GE326.out) | exact HB.out)⟩
   ·
    replace c21 := Bool.eq_false_iff.mpr c21
    subst c21
    have H1 : (if 0 ≤ (l0_0.length : Int) then (if ((l0_0.length : Int) : Int).toNat ≤ 281474976710656 then (millhandlaw23_DagGoes.l0 kj3 l1 (List.replicate ((l0_0.length : Int) : Int).toNat false) 0 l0_0) else (none)) else (none)) = some r := by rw [if_neg (show ¬ (false = true) by decide)] at H; exact H
    clear H
    have H := H1
    clear H1
    by_cases c22 : 0 ≤ (l0_0.length : Int)
    ·
     rw [if_pos c22] at H
     have c22b0 := eq_true c22
     have c22b1 : decide (0 ≤ (l0_0.length : Int)) = true := decide_eq_true c22
     clear c22
     by_cases c23 : ((l0_0.length : Int) : Int).toNat ≤ 281474976710656
     ·
      rw [if_pos c23] at H
      have c23b0 := eq_true c23
      have c23b1 : decide (((l0_0.length : Int) : Int).toNat ≤ 281474976710656) = true := decide_eq_true c23
      clear c23
      obtain ⟨y330, hy330⟩ : ∃ y_ : List Bool, y_ = (List.replicate ((l0_0.length : Int) : Int).toNat false) := ⟨_, rfl⟩
      replace H : (millhandlaw23_DagGoes.l0 kj3 l1 y330 0 l0_0) = some r := by first | (rw [hy330]; with_reducible exact H) | (have H2_ := (Option.bind_some _ _).symm.trans H; rw [hy330]; with_reducible exact H2_) | (have H2_ := (Option.bind_some _ _).symm.trans H; with_reducible exact H2_) | with_reducible exact H | (rw [hy330]; exact H) | exact H
      have Ny330 := Aside0.mk hy330
      clear hy330
      have H' := Aside0.mk H
      clear H
      have hcz24_0 : wc.cell? ⟨gb326, 0, none⟩ = some (.slice A0_0 l0_0.length c0_0) := (blk_cell BK326.out 0).trans rfl
      have hfz24_0 := blk_frozen BK326.out 0
      go_wp2_with (first | ((with_reducible refine gate_dst (N := 29) rfl ?_); (try (refine gate_guard (by rfl) ?_; dsimp only)); refine Kd.R_make Kd.bool _ 4 rfl (N := 29) rfl 38 _ _ rfl (l0_0.length : Int) rfl rfl Try.underlying38 (.bool false) 1 info4 rfl (by decide) (by omega) false (ok := fun _ => True) (okp := fun _ => True) rfl (fun _ hk => hk) trivial (of_decide_eq_true (by first | (with_reducible assumption) | assumption)) (Nat.le_trans (Nat.mul_le_mul_right _ (of_decide_eq_true (by first | (with_reducible assumption) | assumption) : (l0_0.length : Int).toNat ≤ 281474976710656)) (by omega)) (Below.refl _ _) (Nat.le_refl _) ?_; intro v331 w25 ho26 hb hg_ hnew_; clear hg_ hnew_; (first | rw [← Ny330.out] at ho26 | (simp only [Int.reduceToNat] at ho26; rw [← Ny330.out] at ho26)); have n0_ := Aside0.mk (Kd.R_lower ho26 (below_size (by repeat (first | (with_reducible first | exact HB.out | apply below_alloc | apply pw_below_drewN | apply below_drew1 | refine below_set ?_ GE326.out) | exact HB.out)))); have n1_ := Aside0.mk (blk_below (g := gb326) (o := .cells #[.slice A0_0 l0_0.length c0_0] 25 (0, 0)) (by (with_reducible repeat (first | refine blk_drewN ?_ _ | refine blk_drew ?_ | refine blk_alloc ?_ _)); exact BK326.out) hb); have n2_ := Aside0.mk (below_step (by repeat (first | (with_reducible first | exact HB.out | apply below_alloc | apply pw_below_drewN | apply below_drew1 | refine below_set ?_ GE326.out) | exact HB.out)) hb); clear BK326; clear HB; have HO332 := n0_; have BK326 := n1_; have HB := n2_; clear n0_ n1_ n2_; clear hb ho26))
      go_loopg [7] kj3 (fun kq v7 w' => ∃ (x6_2 : List Bool) (x7_2 : Int), v7 = .int .i64 x7_2 ∧ Aside0 (millhandlaw23_DagGoes.l0 kq l1 x6_2 x7_2 l0_0 = some r) ∧ Aside0 (kq ≤ kj3) ∧ Aside0 (Kd.R Kd.bool 4 w' w.heap.size (fun _ => True) v331 x6_2) ∧ Aside0 (w'.heap[gb326]? = some (.cells #[(.slice A0_0 l0_0.length c0_0)] 25 (0, 0))) ∧ Aside0 (Below w.heap.size w w'))
      case atStart => exact ⟨(y330), (0), (by first | rfl | (simp; done) | (simp [*]; done)), H', ⟨Nat.le_refl _⟩, ⟨by (with_reducible repeat (first | apply Kd.R_alloc | apply Kd.R_drewN | apply Kd.R_drew)); exact HO332.out⟩, ⟨by (with_reducible repeat (first | refine blk_drewN ?_ _ | refine blk_drew ?_ | refine blk_alloc ?_ _)); exact BK326.out⟩, ⟨by repeat (first | (with_reducible first | exact HB.out | apply below_alloc | apply pw_below_drewN | apply below_drew1 | refine below_set ?_ GE326.out) | exact HB.out)⟩⟩
      case round =>
       clear H'
       try clear c1
       try clear c2
       try clear p2
       try clear c5
       try clear c8
       try clear c12
       try clear c12b0
       try clear c12b1
       try clear c13
       try clear c21
       try clear c22
       try clear c22b0
       try clear c22b1
       try clear c23
       try clear c23b0
       try clear c23b1
       try clear hcz13_0
       try clear hcz15_0
       try clear hcz17_0
       try clear hcz19_0
       try clear hcz24_0
       try clear hcz9_0
       try clear hfz13_0
       try clear hfz15_0
       try clear hfz17_0
       try clear hfz19_0
       try clear hfz24_0
       try clear hfz9_0
       try clear p2
       obtain ⟨x6_2, x7_2, rfl, HA, HK2, HO_6, BK326, HB⟩ := hrel
       cases gk with
       | zero => exact absurd HA.out (by simp [millhandlaw23_DagGoes.l0])
       | succ k2 =>
        have H := HA.out
        clear HA
        simp only [millhandlaw23_DagGoes.l0] at H
        by_cases c27 : x7_2 < (l0_0.length : Int)
        ·
         rw [if_pos c27] at H
         have c27b0 : decide (x7_2 < (l0_0.length : Int)) = true := decide_eq_true c27
         clear c27
         replace H := Option.bind_eq_some_iff.mp H
         obtain ⟨⟨t337, t340⟩, A280, H⟩ := H
         replace H : (if t340 = 0 then (millhandlaw23_DagGoes.j2 k2 l1 x6_2 x7_2 t337 ((t337.length : Int) == 0) l0_0) else (millhandlaw23_DagGoes.j2 k2 l1 x6_2 x7_2 t337 true l0_0)) = some r := H
         have A28 := Aside0.mk A280
         clear A280
         have HC29 := Aside0.mk H
         clear H
         have hcz30_0 : wr.cell? ⟨gb326, 0, none⟩ = some (.slice A0_0 l0_0.length c0_0) := (blk_cell BK326.out 0).trans rfl
         have hfz30_0 := blk_frozen BK326.out 0
         obtain ⟨Ao31, co31, eo31⟩ := Kd.R_slice HO_6.out
         subst eo31
         go_upto_region 9 with (first | ((with_reducible refine gate_callee (f := 17) rfl ?_); refine goesL_ (some 40) rfl rfl Try.func17 (by kernel_rfl) rfl #[.agg #[.slice A0_0 l0_0.length c0_0], .slice Ao31 x6_2.length co31] rfl (by (try simp only [List.map_toArray, List.map_cons, List.map_nil]); first | done | rfl | (simp only [List.length_drop, List.length_take]; rfl)) ?_; (with_reducible refine (dag_Ready.calls k2 _ _ l0_0 _ _ x6_2 t337 t340 _ ?side1 ?side2 ?side3 ?side4 A28.out).mono ?_); (case side1 => repeat (first | exact (Kd.C_below HR0_0.out HB.out) | (with_reducible refine Kd.C_alloc ?_ _) | (with_reducible refine Kd.C_drewN ?_ _) | (with_reducible refine Kd.C_drew ?_))); (case side2 => exact HC0_0.out); (case side3 => repeat (first | exact (Kd.R_reads' HO_6.out).2.2 | (with_reducible refine Kd.C_alloc ?_ _) | (with_reducible refine Kd.C_drewN ?_ _) | (with_reducible refine Kd.C_drew ?_))); (case side4 => exact (Kd.R_reads' HO_6.out).2.1); rintro e w32 ⟨v338, rfl, ho0, hb⟩; refine ⟨_, rfl, ?_⟩; have n0_ := Aside0.mk (Kd.R_below (by (with_reducible repeat (first | apply Kd.R_alloc | apply Kd.R_drewN | apply Kd.R_drew)); exact HO_6.out) hb); have n1_ := Aside0.mk (Kd.R_lower ho0 (below_size (by repeat (first | (with_reducible first | exact HB.out | apply below_alloc | apply pw_below_drewN | apply below_drew1 | refine below_set ?_ GE326.out) | exact HB.out)))); have n2_ := Aside0.mk (blk_below (g := gb326) (o := .cells #[.slice A0_0 l0_0.length c0_0] 25 (0, 0)) (by (with_reducible repeat (first | refine blk_drewN ?_ _ | refine blk_drew ?_ | refine blk_alloc ?_ _)); exact BK326.out) hb); have n3_ := Aside0.mk (below_step (by repeat (first | (with_reducible first | exact HB.out | apply below_alloc | apply pw_below_drewN | apply below_drew1 | refine below_set ?_ GE326.out) | exact HB.out)) hb); clear HO_6; clear BK326; clear HB; have HO_6 := n0_; have HO339 := n1_; have BK326 := n2_; have HB := n3_; clear n0_ n1_ n2_ n3_; (try clear hb); (try clear hb2); (try clear hk); (try clear hi); (try clear ho0)))
         (try simp only [Act.put, sa_, s0_, s1_])
         go_cut [49] (fun v49 wc => ∃ (kq : Nat) (x49_28 : Bool), v49 = .bool x49_28 ∧ Aside0 (millhandlaw23_DagGoes.j2 kq l1 x6_2 x7_2 t337 x49_28 l0_0 = some r) ∧ Aside0 (kq ≤ k2) ∧ Aside0 (Kd.R Kd.bool 4 wc w.heap.size (fun _ => True) (.slice Ao31 x6_2.length co31) x6_2) ∧ Aside0 (Kd.R (Kd.int .i64) 3 wc w.heap.size (fun _ => True) v338 t337) ∧ Aside0 (wc.heap[gb326]? = some (.cells #[(.slice A0_0 l0_0.length c0_0)] 25 (0, 0))) ∧ Aside0 (Below w.heap.size w wc))
         case first =>
          have H := HC29.out
          clear HC29
          by_cases c33 : t340 = 0
          ·
           rw [if_pos c33] at H
           have c33b0 : (t340 == 0) = true := beq_iff_eq.mpr c33
           have c33b1 : (t340 != 0) = false := bne_eq_false_iff_eq.mpr c33
           clear c33
           (first | rw [c33b0] | (simp only [i64_w, i32_w]; rw [c33b0]) | skip)
           have H' := Aside0.mk H
           clear H
           obtain ⟨Ao34, co34, eo34⟩ := Kd.R_slice HO339.out
           subst eo34
           go_wp2
           go_meet
           case rel => exact ⟨_, (((t337.length : Int) == 0)), (by first | rfl | (simp; done) | (simp [*]; done)), H', ⟨by have := HJ3.out; have := HK2.out; first | omega | exact Nat.le_refl _⟩, ⟨by (with_reducible repeat (first | apply Kd.R_alloc | apply Kd.R_drewN | apply Kd.R_drew)); exact HO_6.out⟩, ⟨by (with_reducible repeat (first | apply Kd.R_alloc | apply Kd.R_drewN | apply Kd.R_drew)); exact HO339.out⟩, ⟨by (with_reducible repeat (first | refine blk_drewN ?_ _ | refine blk_drew ?_ | refine blk_alloc ?_ _)); exact BK326.out⟩, ⟨by repeat (first | (with_reducible first | exact HB.out | apply below_alloc | apply pw_below_drewN | apply below_drew1 | refine below_set ?_ GE326.out) | exact HB.out)⟩⟩
          ·
           rw [if_neg c33] at H
           have c33b0 : (t340 == 0) = false := beq_eq_false_iff_ne.mpr c33
           have c33b1 : (t340 != 0) = true := bne_iff_ne.mpr c33
           (first | rw [c33b0] | (simp only [i64_w, i32_w]; rw [c33b0]) | skip)
           have H' := Aside0.mk H
           clear H
           go_wp2
           go_meet
           case rel => exact ⟨_, (true), (by first | rfl | (simp; done) | (simp [*]; done)), H', ⟨by have := HJ3.out; have := HK2.out; first | omega | exact Nat.le_refl _⟩, ⟨by (with_reducible repeat (first | apply Kd.R_alloc | apply Kd.R_drewN | apply Kd.R_drew)); exact HO_6.out⟩, ⟨by (with_reducible repeat (first | apply Kd.R_alloc | apply Kd.R_drewN | apply Kd.R_drew)); exact HO339.out⟩, ⟨by (with_reducible repeat (first | refine blk_drewN ?_ _ | refine blk_drew ?_ | refine blk_alloc ?_ _)); exact BK326.out⟩, ⟨by repeat (first | (with_reducible first | exact HB.out | apply below_alloc | apply pw_below_drewN | apply below_drew1 | refine below_set ?_ GE326.out) | exact HB.out)⟩⟩
         case rest =>
          clear HC29
          try clear c1
          try clear c2
          try clear p2
          try clear c3
          try clear c5
          try clear c8
          try clear c12
          try clear c12b0
          try clear c12b1
          try clear c13
          try clear c17
          try clear c21
          try clear c22
          try clear c22b0
          try clear c22b1
          try clear c23
          try clear c23b0
          try clear c23b1
          try clear c27
          try clear c27b0
          try clear c33
          try clear c33b0
          try clear c33b1
          try clear hcz13_0
          try clear hcz15_0
          try clear hcz17_0
          try clear hcz19_0
          try clear hcz24_0
          try clear hcz30_0
          try clear hcz9_0
          try clear hfz13_0
          try clear hfz15_0
          try clear hfz17_0
          try clear hfz19_0
          try clear hfz24_0
          try clear hfz30_0
          try clear hfz9_0
          try clear p2
          obtain ⟨kq, x49_28, rfl, HA, HJ28, HO_6, HO_8, BK326, HB⟩ := hcut
          cases kq with
          | zero => exact absurd HA.out (by simp [millhandlaw23_DagGoes.j2])
          | succ kj28 =>
           have H := HA.out
           clear HA
           simp only [millhandlaw23_DagGoes.j2] at H
           by_cases c35 : x49_28 = true
           ·
            subst c35
            have H1 : (some false) = some r := by rw [if_pos rfl] at H; exact H
            clear H
            have H := H1
            clear H1
            obtain rfl := Option.some.inj H
            go_wp2
            go_ret
            exact ⟨by first | rfl | (simp [errW_none, errW_some] <;> rfl) | (simp [*, errW_none, errW_some] <;> rfl) | exact ret_ie _ | (simp [*, errW_none, errW_some, bne]; done), by repeat (first | (with_reducible first | exact HB.out | apply below_alloc | apply pw_below_drewN | apply below_drew1 | refine below_set ?_ GE326.out) | exact HB.out)⟩
           ·
            replace c35 := Bool.eq_false_iff.mpr c35
            subst c35
            have H1 : (if (l1.length : Int) > 0 then (if (l1.length : Int) = 0 then (none) else (if 0 ≤ (Int.tmod x7_2 (l1.length : Int)) then (if (Int.tmod x7_2 (l1.length : Int)) < (l1.length : Int) then (if (t337.length : Int) = 0 then (none) else (if 0 ≤ (Int.tmod (wrap64 (rd l1 (Int.tmod x7_2 (l1.length : Int)))) (t337.length : Int)) then (if (Int.tmod (wrap64 (rd l1 (Int.tmod x7_2 (l1.length : Int)))) (t337.length : Int)) < (t337.length : Int) then (if 0 ≤ (rd t337 (Int.tmod (wrap64 (rd l1 (Int.tmod x7_2 (l1.length : Int)))) (t337.length : Int))) then (if (rd t337 (Int.tmod (wrap64 (rd l1 (Int.tmod x7_2 (l1.length : Int)))) (t337.length : Int))) < (x6_2.length : Int) then (if rdOf false x6_2 (rd t337 (Int.tmod (wrap64 (rd l1 (Int.tmod x7_2 (l1.length : Int)))) (t337.length : Int))) = true then (some false) else (millhandlaw23_DagGoes.l0 kj28 l1 (x6_2.set ((rd t337 (Int.tmod (wrap64 (rd l1 (Int.tmod x7_2 (l1.length : Int)))) (t337.length : Int))) : Int).toNat true) (wrap64 (x7_2 + 1)) l0_0)) else (none)) else (none)) else (none)) else (none))) else (none)) else (none))) else (if 0 < (t337.length : Int) then (if 0 ≤ (rd t337 0) then (if (rd t337 0) < (x6_2.length : Int) then (if rdOf false x6_2 (rd t337 0) = true then (some false) else (millhandlaw23_DagGoes.l0 kj28 l1 (x6_2.set ((rd t337 0) : Int).toNat true) (wrap64 (x7_2 + 1)) l0_0)) else (none)) else (none)) else (none))) = some r := by rw [if_neg (show ¬ (false = true) by decide)] at H; exact H
            clear H
            have H := H1
            clear H1
            by_cases c36 : (l1.length : Int) > 0
            ·
             rw [if_pos c36] at H
             have c36b0 : decide (0 < (l1.length : Int)) = true := decide_eq_true c36
             have c36b1 : decide (0 < l1.length) = true := decide_eq_true (by omega)
             clear c36
             by_cases c37 : (l1.length : Int) = 0
             ·
              rw [if_pos c37] at H
              exact absurd H (by simp)
             ·
              rw [if_neg c37] at H
              have c37b0 : ((l1.length : Int) == 0) = false := beq_eq_false_iff_ne.mpr c37
              have c37b1 : ((l1.length : Int) != 0) = true := bne_iff_ne.mpr c37
              have c37b2 : ¬ (l1 = []) := fun h_ => c37 (by rw [h_]; rfl)
              obtain ⟨ji38, hji38⟩ : ∃ j_ : Int, (Int.tmod x7_2 (l1.length : Int)) = j_ := ⟨_, rfl⟩
              replace H : (if 0 ≤ (ji38) then (if (ji38) < (l1.length : Int) then (if (t337.length : Int) = 0 then (none) else (if 0 ≤ (Int.tmod (wrap64 (rd l1 (ji38))) (t337.length : Int)) then (if (Int.tmod (wrap64 (rd l1 (ji38))) (t337.length : Int)) < (t337.length : Int) then (if 0 ≤ (rd t337 (Int.tmod (wrap64 (rd l1 (ji38))) (t337.length : Int))) then (if (rd t337 (Int.tmod (wrap64 (rd l1 (ji38))) (t337.length : Int))) < (x6_2.length : Int) then (if rdOf false x6_2 (rd t337 (Int.tmod (wrap64 (rd l1 (ji38))) (t337.length : Int))) = true then (some false) else (millhandlaw23_DagGoes.l0 kj28 l1 (x6_2.set ((rd t337 (Int.tmod (wrap64 (rd l1 (ji38))) (t337.length : Int))) : Int).toNat true) (wrap64 (x7_2 + 1)) l0_0)) else (none)) else (none)) else (none)) else (none))) else (none)) else (none)) = some r := by first | (rw [hji38] at H; exact H) | (simp only [hji38] at H ⊢; exact H)
              by_cases c39 : 0 ≤ (ji38)
              ·
               rw [if_pos c39] at H
               have c39b0 : decide (0 ≤ (ji38)) = true := decide_eq_true c39
               clear c39
               by_cases c40 : (ji38) < (l1.length : Int)
               ·
                rw [if_pos c40] at H
                have c40b0 : decide ((ji38) < (l1.length : Int)) = true := decide_eq_true c40
                clear c40
                by_cases c41 : (t337.length : Int) = 0
                ·
                 rw [if_pos c41] at H
                 exact absurd H (by simp)
                ·
                 rw [if_neg c41] at H
                 have c41b0 : ((t337.length : Int) == 0) = false := beq_eq_false_iff_ne.mpr c41
                 have c41b1 : ((t337.length : Int) != 0) = true := bne_iff_ne.mpr c41
                 have c41b2 : ¬ (t337 = []) := fun h_ => c41 (by rw [h_]; rfl)
                 obtain ⟨ji42, hji42⟩ : ∃ j_ : Int, (Int.tmod (wrap64 (rd l1 (ji38))) (t337.length : Int)) = j_ := ⟨_, rfl⟩
                 replace H : (if 0 ≤ (ji42) then (if (ji42) < (t337.length : Int) then (if 0 ≤ (rd t337 (ji42)) then (if (rd t337 (ji42)) < (x6_2.length : Int) then (if rdOf false x6_2 (rd t337 (ji42)) = true then (some false) else (millhandlaw23_DagGoes.l0 kj28 l1 (x6_2.set ((rd t337 (ji42)) : Int).toNat true) (wrap64 (x7_2 + 1)) l0_0)) else (none)) else (none)) else (none)) else (none)) = some r := by first | (rw [hji42] at H; exact H) | (simp only [hji42] at H ⊢; exact H)
                 by_cases c43 : 0 ≤ (ji42)
                 ·
                  rw [if_pos c43] at H
                  have c43b0 : decide (0 ≤ (ji42)) = true := decide_eq_true c43
                  clear c43
                  by_cases c44 : (ji42) < (t337.length : Int)
                  ·
                   rw [if_pos c44] at H
                   have c44b0 : decide ((ji42) < (t337.length : Int)) = true := decide_eq_true c44
                   clear c44
                   by_cases c45 : 0 ≤ (rd t337 (ji42))
                   ·
                    rw [if_pos c45] at H
                    have c45b0 : decide (0 ≤ (rd t337 (ji42))) = true := decide_eq_true c45
                    clear c45
                    by_cases c46 : (rd t337 (ji42)) < (x6_2.length : Int)
                    ·
                     rw [if_pos c46] at H
                     have c46b0 : decide ((rd t337 (ji42)) < (x6_2.length : Int)) = true := decide_eq_true c46
                     clear c46
                     obtain ⟨bq47, hbq47⟩ : ∃ b_ : Bool, b_ = (rdOf false x6_2 (rd t337 (ji42))) := ⟨_, rfl⟩
                     replace H : (if bq47 = true then (some false) else (millhandlaw23_DagGoes.l0 kj28 l1 (x6_2.set ((rd t337 (ji42)) : Int).toNat true) (wrap64 (x7_2 + 1)) l0_0)) = some r := by rw [← hbq47] at H; exact H
                     have Nbq47 := Aside0.mk hbq47
                     clear hbq47
                     by_cases c48 : bq47 = true
                     ·
                      subst c48
                      have H1 : (some false) = some r := by rw [if_pos rfl] at H; exact H
                      clear H
                      have H := H1
                      clear H1
                      obtain rfl := Option.some.inj H
                      have p341 : 0 ≤ ((ji38) : Int) := of_decide_eq_true (by first | (with_reducible assumption) | assumption)
                      have q341 : (ji38) < (l1.length : Int) := of_decide_eq_true (by first | (with_reducible assumption) | assumption)
                      obtain ⟨ad341, e341, hx341_0⟩ := Kd.at_int HR1.out (ji38) p341 q341
                      cases e341
                      replace hx341_0 := cl_ HB.out hx341_0
                      replace p341 := eq_true p341
                      replace q341 := eq_true q341
                      obtain ⟨Ao49, co49, eo49⟩ := Kd.R_slice HO_8.out
                      subst eo49
                      have p342 : 0 ≤ ((ji42) : Int) := of_decide_eq_true (by first | (with_reducible assumption) | assumption)
                      have q342 : (ji42) < (t337.length : Int) := of_decide_eq_true (by first | (with_reducible assumption) | assumption)
                      obtain ⟨ad342, e342, hx342_0⟩ := Kd.at_int (Kd.R_reads' HO_8.out).2.2 (ji42) p342 q342
                      cases e342
                      replace p342 := eq_true p342
                      replace q342 := eq_true q342
                      have p343 : 0 ≤ ((rd t337 (ji42)) : Int) := of_decide_eq_true (by first | (with_reducible assumption) | assumption)
                      have q343 : (rd t337 (ji42)) < (x6_2.length : Int) := of_decide_eq_true (by first | (with_reducible assumption) | assumption)
                      obtain ⟨ad343, e343, hx343_0⟩ := Kd.at_bool (Kd.R_reads' HO_6.out).2.2 (rd t337 (ji42)) p343 q343
                      (try rw [← Nbq47.out] at hx343_0)
                      cases e343
                      replace p343 := eq_true p343
                      replace q343 := eq_true q343
                      go_wp2
                      go_ret
                      exact ⟨by first | rfl | (simp [errW_none, errW_some] <;> rfl) | (simp only [← hji38, ← hji42]; first | rfl | (simp [errW_none, errW_some] <;> rfl)) | (simp [*, errW_none, errW_some] <;> rfl) | exact ret_ie _ | (simp [*, errW_none, errW_some, bne]; done), by repeat (first | (with_reducible first | exact HB.out | apply below_alloc | apply pw_below_drewN | apply below_drew1 | refine below_set ?_ GE326.out) | exact HB.out)⟩
                     ·
                      replace c48 := Bool.eq_false_iff.mpr c48
                      subst c48
                      have H1 : (millhandlaw23_DagGoes.l0 kj28 l1 (x6_2.set ((rd t337 (ji42)) : Int).toNat true) (wrap64 (x7_2 + 1)) l0_0) = some r := by rw [if_neg (show ¬ (false = true) by decide)] at H; exact H
                      clear H
                      have H := H1
                      clear H1
                      obtain ⟨y345, hy345⟩ : ∃ y_ : List Bool, y_ = (x6_2.set ((rd t337 (ji42)) : Int).toNat true) := ⟨_, rfl⟩
                      replace H : (millhandlaw23_DagGoes.l0 kj28 l1 y345 (wrap64 (x7_2 + 1)) l0_0) = some r := by first | (rw [hy345]; with_reducible exact H) | (have H2_ := (Option.bind_some _ _).symm.trans H; rw [hy345]; with_reducible exact H2_) | (have H2_ := (Option.bind_some _ _).symm.trans H; with_reducible exact H2_) | with_reducible exact H | (rw [hy345]; exact H) | exact H
                      have Ny345 := Aside0.mk hy345
                      clear hy345
                      have H' := Aside0.mk H
                      clear H
                      have p341 : 0 ≤ ((ji38) : Int) := of_decide_eq_true (by first | (with_reducible assumption) | assumption)
                      have q341 : (ji38) < (l1.length : Int) := of_decide_eq_true (by first | (with_reducible assumption) | assumption)
                      obtain ⟨ad341, e341, hx341_0⟩ := Kd.at_int HR1.out (ji38) p341 q341
                      cases e341
                      replace hx341_0 := cl_ HB.out hx341_0
                      replace p341 := eq_true p341
                      replace q341 := eq_true q341
                      obtain ⟨Ao51, co51, eo51⟩ := Kd.R_slice HO_8.out
                      subst eo51
                      have p342 : 0 ≤ ((ji42) : Int) := of_decide_eq_true (by first | (with_reducible assumption) | assumption)
                      have q342 : (ji42) < (t337.length : Int) := of_decide_eq_true (by first | (with_reducible assumption) | assumption)
                      obtain ⟨ad342, e342, hx342_0⟩ := Kd.at_int (Kd.R_reads' HO_8.out).2.2 (ji42) p342 q342
                      cases e342
                      replace p342 := eq_true p342
                      replace q342 := eq_true q342
                      have p343 : 0 ≤ ((rd t337 (ji42)) : Int) := of_decide_eq_true (by first | (with_reducible assumption) | assumption)
                      have q343 : (rd t337 (ji42)) < (x6_2.length : Int) := of_decide_eq_true (by first | (with_reducible assumption) | assumption)
                      obtain ⟨ad343, e343, hx343_0⟩ := Kd.at_bool (Kd.R_reads' HO_6.out).2.2 (rd t337 (ji42)) p343 q343
                      (try rw [← Nbq47.out] at hx343_0)
                      cases e343
                      replace p343 := eq_true p343
                      replace q343 := eq_true q343
                      have p344 : 0 ≤ ((ji42) : Int) := of_decide_eq_true (by first | (with_reducible assumption) | assumption)
                      have q344 : (ji42) < (t337.length : Int) := of_decide_eq_true (by first | (with_reducible assumption) | assumption)
                      obtain ⟨ad344, e344, hx344_0⟩ := Kd.at_int (Kd.R_reads' HO_8.out).2.2 (ji42) p344 q344
                      obtain rfl : ad342 = ad344 := (by injection e344)
                      replace p344 := eq_true p344
                      replace q344 := eq_true q344
                      have p50 : 0 ≤ ((rd t337 (ji42)) : Int) := of_decide_eq_true (by first | (with_reducible assumption) | assumption)
                      have q50 : ((rd t337 (ji42)) : Int) < ((x6_2.length : Int) : Int) := of_decide_eq_true (by first | (with_reducible assumption) | assumption)
                      obtain ⟨go50, co50, eo50, gb50, gl50, cl50, HG50⟩ := Kd.R_form HO_6.out (by omega)
                      (first | cases eo50 | (injection eo50 with ea_ en_ ec_; (first | subst ea_ | (injection ea_ with ea_; subst ea_)); subst ec_; clear en_))
                      have GB50 := Aside0.mk gb50
                      have GG50 := Aside0.mk HG50
                      clear gb50 gl50 HG50
                      (first | simp only [add_plain] at hx343_0 | skip)
                      obtain ⟨hx50_0, hf50_0⟩ := Kd.R_celln false HO_6.out ((rd t337 (ji42)) : Int) p50 q50
                      replace p50 := eq_true p50
                      replace q50 := eq_true q50
                      have HP52 := Kd.R_putg HO_6.out ((rd t337 (ji42)) : Int) true
                      go_wp2_with (first | ((with_reducible refine gate_store (t := 4) (p := 76) rfl ?_); refine store_event (t := 4) (p := 76) (v := ?vo_w53) (w1 := (wc.setCell ⟨go50, ((rd t337 (ji42)) : Int).toNat, none⟩ (.bool true))) ?hg ?ho ?hn ?hr ?_; (case ho => rfl); (case hg => rfl); (case hn => rfl); (case hr => first | (go_simp; done) | (go_simp; rfl)); intro w53 hw; have hg : wc.grownBy w53 (some go50) := (by rw [hw]; exact HP52.2); have hp_ : Kd.R Kd.bool 4 w53 w.heap.size (fun _ => True) (.slice (some ⟨go50, 0, none⟩) x6_2.length co31) y345 := (by rw [hw, Ny345.out]; exact HP52.1); clear HP52; have n0_ := Aside0.mk (hp_); have n1_ := Aside0.mk (Kd.R_over' (v := (.slice (some ⟨go50, 0, none⟩) x6_2.length co31)) (by (with_reducible repeat (first | apply Kd.R_alloc | apply Kd.R_drewN | apply Kd.R_drew)); exact HO_8.out) (Kd.R_typed HO_6.out) (by decide) hg); have n2_ := Aside0.mk (blk_grown (g := gb326) (o := .cells #[.slice A0_0 l0_0.length c0_0] 25 (0, 0)) (by (with_reducible repeat (first | refine blk_drewN ?_ _ | refine blk_drew ?_ | refine blk_alloc ?_ _)); exact BK326.out) hg (Kd.R_ne HO_6.out BK326.out (by decide))); have n3_ := Aside0.mk ((by rw [hw]; exact below_set (HB.out) GB50.out : Below w.heap.size w w53)); clear HO_6; clear HO_8; clear BK326; clear HB; have HO_6 := n0_; have HO_8 := n1_; have BK326 := n2_; have HB := n3_; clear n0_ n1_ n2_ n3_; clear hg hw hp_))
                      go_roundg kj28
                      case measure => have := HJ3.out; have := HK2.out; have := HJ28.out; omega
                      case rel => exact ⟨(y345), (wrap64 (x7_2 + 1)), (by first | rfl | (simp; done) | (simp [*]; done)), H', ⟨by have := HJ3.out; have := HK2.out; have := HJ28.out; omega⟩, ⟨by (with_reducible repeat (first | apply Kd.R_alloc | apply Kd.R_drewN | apply Kd.R_drew)); exact HO_6.out⟩, ⟨by (with_reducible repeat (first | refine blk_drewN ?_ _ | refine blk_drew ?_ | refine blk_alloc ?_ _)); exact BK326.out⟩, ⟨by repeat (first | (with_reducible first | exact HB.out | apply below_alloc | apply pw_below_drewN | apply below_drew1 | refine below_set ?_ GE326.out) | exact HB.out)⟩⟩
                    ·
                     rw [if_neg c46] at H
                     exact absurd H (by simp)
                   ·
                    rw [if_neg c45] at H
                    exact absurd H (by simp)
                  ·
                   rw [if_neg c44] at H
                   exact absurd H (by simp)
                 ·
                  rw [if_neg c43] at H
                  exact absurd H (by simp)
               ·
                rw [if_neg c40] at H
                exact absurd H (by simp)
              ·
               rw [if_neg c39] at H
               exact absurd H (by simp)
            ·
             rw [if_neg c36] at H
             have c36b0 : decide (0 < (l1.length : Int)) = false := decide_eq_false c36
             have c36b1 : decide (0 < l1.length) = false := decide_eq_false (by omega)
             clear c36
             by_cases c54 : 0 < (t337.length : Int)
             ·
              rw [if_pos c54] at H
              have c54b0 : decide (0 < (t337.length : Int)) = true := decide_eq_true c54
              have c54b1 : decide (0 < t337.length) = true := decide_eq_true (by omega)
              clear c54
              by_cases c55 : 0 ≤ (rd t337 0)
              ·
               rw [if_pos c55] at H
               have c55b0 : decide (0 ≤ (rd t337 0)) = true := decide_eq_true c55
               clear c55
               by_cases c56 : (rd t337 0) < (x6_2.length : Int)
               ·
                rw [if_pos c56] at H
                have c56b0 : decide ((rd t337 0) < (x6_2.length : Int)) = true := decide_eq_true c56
                clear c56
                obtain ⟨bq57, hbq57⟩ : ∃ b_ : Bool, b_ = (rdOf false x6_2 (rd t337 0)) := ⟨_, rfl⟩
                replace H : (if bq57 = true then (some false) else (millhandlaw23_DagGoes.l0 kj28 l1 (x6_2.set ((rd t337 0) : Int).toNat true) (wrap64 (x7_2 + 1)) l0_0)) = some r := by rw [← hbq57] at H; exact H
                have Nbq57 := Aside0.mk hbq57
                clear hbq57
                by_cases c58 : bq57 = true
                ·
                 subst c58
                 have H1 : (some false) = some r := by rw [if_pos rfl] at H; exact H
                 clear H
                 have H := H1
                 clear H1
                 obtain rfl := Option.some.inj H
                 obtain ⟨Ao59, co59, eo59⟩ := Kd.R_slice HO_8.out
                 subst eo59
                 have p346 : 0 ≤ (0 : Int) := (by omega)
                 have q346 : 0 < (t337.length : Int) := of_decide_eq_true (by first | (with_reducible assumption) | assumption)
                 obtain ⟨ad346, e346, hx346_0⟩ := Kd.at_int (Kd.R_reads' HO_8.out).2.2 0 p346 q346
                 cases e346
                 have qi346 : (0 < t337.length) = True := eq_true (by omega)
                 (try rw [show ((0 : Int)).toNat = 0 from rfl] at hx346_0)
                 (try rw [Addr.add_zero'] at hx346_0)
                 replace p346 := eq_true p346
                 replace q346 := eq_true q346
                 have p347 : 0 ≤ ((rd t337 0) : Int) := of_decide_eq_true (by first | (with_reducible assumption) | assumption)
                 have q347 : (rd t337 0) < (x6_2.length : Int) := of_decide_eq_true (by first | (with_reducible assumption) | assumption)
                 obtain ⟨ad347, e347, hx347_0⟩ := Kd.at_bool (Kd.R_reads' HO_6.out).2.2 (rd t337 0) p347 q347
                 (try rw [← Nbq57.out] at hx347_0)
                 cases e347
                 replace p347 := eq_true p347
                 replace q347 := eq_true q347
                 go_wp2
                 go_ret
                 exact ⟨by first | rfl | (simp [errW_none, errW_some] <;> rfl) | (simp [*, errW_none, errW_some] <;> rfl) | exact ret_ie _ | (simp [*, errW_none, errW_some, bne]; done), by repeat (first | (with_reducible first | exact HB.out | apply below_alloc | apply pw_below_drewN | apply below_drew1 | refine below_set ?_ GE326.out) | exact HB.out)⟩
                ·
                 replace c58 := Bool.eq_false_iff.mpr c58
                 subst c58
                 have H1 : (millhandlaw23_DagGoes.l0 kj28 l1 (x6_2.set ((rd t337 0) : Int).toNat true) (wrap64 (x7_2 + 1)) l0_0) = some r := by rw [if_neg (show ¬ (false = true) by decide)] at H; exact H
                 clear H
                 have H := H1
                 clear H1
                 obtain ⟨y349, hy349⟩ : ∃ y_ : List Bool, y_ = (x6_2.set ((rd t337 0) : Int).toNat true) := ⟨_, rfl⟩
                 replace H : (millhandlaw23_DagGoes.l0 kj28 l1 y349 (wrap64 (x7_2 + 1)) l0_0) = some r := by first | (rw [hy349]; with_reducible exact H) | (have H2_ := (Option.bind_some _ _).symm.trans H; rw [hy349]; with_reducible exact H2_) | (have H2_ := (Option.bind_some _ _).symm.trans H; with_reducible exact H2_) | with_reducible exact H | (rw [hy349]; exact H) | exact H
                 have Ny349 := Aside0.mk hy349
                 clear hy349
                 have H' := Aside0.mk H
                 clear H
                 obtain ⟨Ao61, co61, eo61⟩ := Kd.R_slice HO_8.out
                 subst eo61
                 have p346 : 0 ≤ (0 : Int) := (by omega)
                 have q346 : 0 < (t337.length : Int) := of_decide_eq_true (by first | (with_reducible assumption) | assumption)
                 obtain ⟨ad346, e346, hx346_0⟩ := Kd.at_int (Kd.R_reads' HO_8.out).2.2 0 p346 q346
                 cases e346
                 have qi346 : (0 < t337.length) = True := eq_true (by omega)
                 (try rw [show ((0 : Int)).toNat = 0 from rfl] at hx346_0)
                 (try rw [Addr.add_zero'] at hx346_0)
                 replace p346 := eq_true p346
                 replace q346 := eq_true q346
                 have p347 : 0 ≤ ((rd t337 0) : Int) := of_decide_eq_true (by first | (with_reducible assumption) | assumption)
                 have q347 : (rd t337 0) < (x6_2.length : Int) := of_decide_eq_true (by first | (with_reducible assumption) | assumption)
                 obtain ⟨ad347, e347, hx347_0⟩ := Kd.at_bool (Kd.R_reads' HO_6.out).2.2 (rd t337 0) p347 q347
                 (try rw [← Nbq57.out] at hx347_0)
                 cases e347
                 replace p347 := eq_true p347
                 replace q347 := eq_true q347
                 have p348 : 0 ≤ (0 : Int) := (by omega)
                 have q348 : 0 < (t337.length : Int) := of_decide_eq_true (by first | (with_reducible assumption) | assumption)
                 obtain ⟨ad348, e348, hx348_0⟩ := Kd.at_int (Kd.R_reads' HO_8.out).2.2 0 p348 q348
                 obtain rfl : ad346 = ad348 := (by injection e348)
                 have qi348 : (0 < t337.length) = True := eq_true (by omega)
                 (try rw [show ((0 : Int)).toNat = 0 from rfl] at hx348_0)
                 (try rw [Addr.add_zero'] at hx348_0)
                 replace p348 := eq_true p348
                 replace q348 := eq_true q348
                 have p60 : 0 ≤ ((rd t337 0) : Int) := of_decide_eq_true (by first | (with_reducible assumption) | assumption)
                 have q60 : ((rd t337 0) : Int) < ((x6_2.length : Int) : Int) := of_decide_eq_true (by first | (with_reducible assumption) | assumption)
                 obtain ⟨go60, co60, eo60, gb60, gl60, cl60, HG60⟩ := Kd.R_form HO_6.out (by omega)
                 (first | cases eo60 | (injection eo60 with ea_ en_ ec_; (first | subst ea_ | (injection ea_ with ea_; subst ea_)); subst ec_; clear en_))
                 have GB60 := Aside0.mk gb60
                 have GG60 := Aside0.mk HG60
                 clear gb60 gl60 HG60
                 (first | simp only [add_plain] at hx347_0 | skip)
                 obtain ⟨hx60_0, hf60_0⟩ := Kd.R_celln false HO_6.out ((rd t337 0) : Int) p60 q60
                 replace p60 := eq_true p60
                 replace q60 := eq_true q60
                 have HP62 := Kd.R_putg HO_6.out ((rd t337 0) : Int) true
                 go_wp2_with (first | ((with_reducible refine gate_store (t := 4) (p := 76) rfl ?_); refine store_event (t := 4) (p := 76) (v := ?vo_w63) (w1 := (wc.setCell ⟨go60, ((rd t337 0) : Int).toNat, none⟩ (.bool true))) ?hg ?ho ?hn ?hr ?_; (case ho => rfl); (case hg => rfl); (case hn => rfl); (case hr => first | (go_simp; done) | (go_simp; rfl)); intro w63 hw; have hg : wc.grownBy w63 (some go60) := (by rw [hw]; exact HP62.2); have hp_ : Kd.R Kd.bool 4 w63 w.heap.size (fun _ => True) (.slice (some ⟨go60, 0, none⟩) x6_2.length co31) y349 := (by rw [hw, Ny349.out]; exact HP62.1); clear HP62; have n0_ := Aside0.mk (hp_); have n1_ := Aside0.mk (Kd.R_over' (v := (.slice (some ⟨go60, 0, none⟩) x6_2.length co31)) (by (with_reducible repeat (first | apply Kd.R_alloc | apply Kd.R_drewN | apply Kd.R_drew)); exact HO_8.out) (Kd.R_typed HO_6.out) (by decide) hg); have n2_ := Aside0.mk (blk_grown (g := gb326) (o := .cells #[.slice A0_0 l0_0.length c0_0] 25 (0, 0)) (by (with_reducible repeat (first | refine blk_drewN ?_ _ | refine blk_drew ?_ | refine blk_alloc ?_ _)); exact BK326.out) hg (Kd.R_ne HO_6.out BK326.out (by decide))); have n3_ := Aside0.mk ((by rw [hw]; exact below_set (HB.out) GB60.out : Below w.heap.size w w63)); clear HO_6; clear HO_8; clear BK326; clear HB; have HO_6 := n0_; have HO_8 := n1_; have BK326 := n2_; have HB := n3_; clear n0_ n1_ n2_ n3_; clear hg hw hp_))
                 go_roundg kj28
                 case measure => have := HJ3.out; have := HK2.out; have := HJ28.out; omega
                 case rel => exact ⟨(y349), (wrap64 (x7_2 + 1)), (by first | rfl | (simp; done) | (simp [*]; done)), H', ⟨by have := HJ3.out; have := HK2.out; have := HJ28.out; omega⟩, ⟨by (with_reducible repeat (first | apply Kd.R_alloc | apply Kd.R_drewN | apply Kd.R_drew)); exact HO_6.out⟩, ⟨by (with_reducible repeat (first | refine blk_drewN ?_ _ | refine blk_drew ?_ | refine blk_alloc ?_ _)); exact BK326.out⟩, ⟨by repeat (first | (with_reducible first | exact HB.out | apply below_alloc | apply pw_below_drewN | apply below_drew1 | refine below_set ?_ GE326.out) | exact HB.out)⟩⟩
               ·
                rw [if_neg c56] at H
                exact absurd H (by simp)
              ·
               rw [if_neg c55] at H
               exact absurd H (by simp)
             ·
              rw [if_neg c54] at H
              exact absurd H (by simp)
        ·
         rw [if_neg c27] at H
         have c27b0 : decide (x7_2 < (l0_0.length : Int)) = false := decide_eq_false c27
         clear c27
         replace H := Option.bind_eq_some_iff.mp H
         obtain ⟨⟨t333, t336⟩, A640, H⟩ := H
         replace H : (if t336 = 0 then (some ((t333.length : Int) == 0)) else (some false)) = some r := H
         have A64 := Aside0.mk A640
         clear A640
         by_cases c65 : t336 = 0
         ·
          rw [if_pos c65] at H
          have c65b0 : (t336 == 0) = true := beq_iff_eq.mpr c65
          have c65b1 : (t336 != 0) = false := bne_eq_false_iff_eq.mpr c65
          clear c65
          obtain rfl := Option.some.inj H
          have hcz66_0 : wr.cell? ⟨gb326, 0, none⟩ = some (.slice A0_0 l0_0.length c0_0) := (blk_cell BK326.out 0).trans rfl
          have hfz66_0 := blk_frozen BK326.out 0
          obtain ⟨Ao67, co67, eo67⟩ := Kd.R_slice HO_6.out
          subst eo67
          go_wp2_with (first | ((with_reducible refine gate_callee (f := 17) rfl ?_); refine goesL_ (some 80) rfl rfl Try.func17 (by kernel_rfl) rfl #[.agg #[.slice A0_0 l0_0.length c0_0], .slice Ao67 x6_2.length co67] rfl (by (try simp only [List.map_toArray, List.map_cons, List.map_nil]); first | done | rfl | (simp only [List.length_drop, List.length_take]; rfl)) ?_; (with_reducible refine (dag_Ready.calls k2 _ _ l0_0 _ _ x6_2 t333 t336 _ ?side1 ?side2 ?side3 ?side4 A64.out).mono ?_); (case side1 => repeat (first | exact (Kd.C_below HR0_0.out HB.out) | (with_reducible refine Kd.C_alloc ?_ _) | (with_reducible refine Kd.C_drewN ?_ _) | (with_reducible refine Kd.C_drew ?_))); (case side2 => exact HC0_0.out); (case side3 => repeat (first | exact (Kd.R_reads' HO_6.out).2.2 | (with_reducible refine Kd.C_alloc ?_ _) | (with_reducible refine Kd.C_drewN ?_ _) | (with_reducible refine Kd.C_drew ?_))); (case side4 => exact (Kd.R_reads' HO_6.out).2.1); rintro e w68 ⟨v334, rfl, ho0, hb⟩; refine ⟨_, rfl, ?_⟩; have n0_ := Aside0.mk (Kd.R_below (by (with_reducible repeat (first | apply Kd.R_alloc | apply Kd.R_drewN | apply Kd.R_drew)); exact HO_6.out) hb); have n1_ := Aside0.mk (Kd.R_lower ho0 (below_size (by repeat (first | (with_reducible first | exact HB.out | apply below_alloc | apply pw_below_drewN | apply below_drew1 | refine below_set ?_ GE326.out) | exact HB.out)))); have n2_ := Aside0.mk (blk_below (g := gb326) (o := .cells #[.slice A0_0 l0_0.length c0_0] 25 (0, 0)) (by (with_reducible repeat (first | refine blk_drewN ?_ _ | refine blk_drew ?_ | refine blk_alloc ?_ _)); exact BK326.out) hb); have n3_ := Aside0.mk (below_step (by repeat (first | (with_reducible first | exact HB.out | apply below_alloc | apply pw_below_drewN | apply below_drew1 | refine below_set ?_ GE326.out) | exact HB.out)) hb); clear HO_6; clear BK326; clear HB; have HO_6 := n0_; have HO335 := n1_; have BK326 := n2_; have HB := n3_; clear n0_ n1_ n2_ n3_; (try clear hb); (try clear hb2); (try clear hk); (try clear hi); (try clear ho0); obtain ⟨Ao69, co69, eo69⟩ := Kd.R_slice HO335.out; subst eo69))
          go_ret
          exact ⟨by first | rfl | (simp [errW_none, errW_some] <;> rfl) | (simp [*, errW_none, errW_some] <;> rfl) | exact ret_ie _ | (simp [*, errW_none, errW_some, bne]; done), by repeat (first | (with_reducible first | exact HB.out | apply below_alloc | apply pw_below_drewN | apply below_drew1 | refine below_set ?_ GE326.out) | exact HB.out)⟩
         ·
          rw [if_neg c65] at H
          have c65b0 : (t336 == 0) = false := beq_eq_false_iff_ne.mpr c65
          have c65b1 : (t336 != 0) = true := bne_iff_ne.mpr c65
          obtain rfl := Option.some.inj H
          have hcz70_0 : wr.cell? ⟨gb326, 0, none⟩ = some (.slice A0_0 l0_0.length c0_0) := (blk_cell BK326.out 0).trans rfl
          have hfz70_0 := blk_frozen BK326.out 0
          obtain ⟨Ao71, co71, eo71⟩ := Kd.R_slice HO_6.out
          subst eo71
          go_wp2_with (first | ((with_reducible refine gate_callee (f := 17) rfl ?_); refine goesL_ (some 80) rfl rfl Try.func17 (by kernel_rfl) rfl #[.agg #[.slice A0_0 l0_0.length c0_0], .slice Ao71 x6_2.length co71] rfl (by (try simp only [List.map_toArray, List.map_cons, List.map_nil]); first | done | rfl | (simp only [List.length_drop, List.length_take]; rfl)) ?_; (with_reducible refine (dag_Ready.calls k2 _ _ l0_0 _ _ x6_2 t333 t336 _ ?side1 ?side2 ?side3 ?side4 A64.out).mono ?_); (case side1 => repeat (first | exact (Kd.C_below HR0_0.out HB.out) | (with_reducible refine Kd.C_alloc ?_ _) | (with_reducible refine Kd.C_drewN ?_ _) | (with_reducible refine Kd.C_drew ?_))); (case side2 => exact HC0_0.out); (case side3 => repeat (first | exact (Kd.R_reads' HO_6.out).2.2 | (with_reducible refine Kd.C_alloc ?_ _) | (with_reducible refine Kd.C_drewN ?_ _) | (with_reducible refine Kd.C_drew ?_))); (case side4 => exact (Kd.R_reads' HO_6.out).2.1); rintro e w72 ⟨v334, rfl, ho0, hb⟩; refine ⟨_, rfl, ?_⟩; have n0_ := Aside0.mk (Kd.R_below (by (with_reducible repeat (first | apply Kd.R_alloc | apply Kd.R_drewN | apply Kd.R_drew)); exact HO_6.out) hb); have n1_ := Aside0.mk (Kd.R_lower ho0 (below_size (by repeat (first | (with_reducible first | exact HB.out | apply below_alloc | apply pw_below_drewN | apply below_drew1 | refine below_set ?_ GE326.out) | exact HB.out)))); have n2_ := Aside0.mk (blk_below (g := gb326) (o := .cells #[.slice A0_0 l0_0.length c0_0] 25 (0, 0)) (by (with_reducible repeat (first | refine blk_drewN ?_ _ | refine blk_drew ?_ | refine blk_alloc ?_ _)); exact BK326.out) hb); have n3_ := Aside0.mk (below_step (by repeat (first | (with_reducible first | exact HB.out | apply below_alloc | apply pw_below_drewN | apply below_drew1 | refine below_set ?_ GE326.out) | exact HB.out)) hb); clear HO_6; clear BK326; clear HB; have HO_6 := n0_; have HO335 := n1_; have BK326 := n2_; have HB := n3_; clear n0_ n1_ n2_ n3_; (try clear hb); (try clear hb2); (try clear hk); (try clear hi); (try clear ho0)))
          go_ret
          exact ⟨by first | rfl | (simp [errW_none, errW_some] <;> rfl) | (simp [*, errW_none, errW_some] <;> rfl) | exact ret_ie _ | (simp [*, errW_none, errW_some, bne]; done), by repeat (first | (with_reducible first | exact HB.out | apply below_alloc | apply pw_below_drewN | apply below_drew1 | refine below_set ?_ GE326.out) | exact HB.out)⟩
     ·
      rw [if_neg c23] at H
      exact absurd H (by simp)
    ·
     rw [if_neg c22] at H
     exact absurd H (by simp)

end Go.Proofs.Ytoplhlacdjlidaa.R

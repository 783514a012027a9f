/- Contracts of Go functions and what they come to, over the translation of this seat: made by a program of this session (print2.py). -/
import Derived.Test.YtoplhlacdjlidaaRx0
import Derived.Test.YtoplhlacdjlidaaRx17
import Derived.Test.YtoplhlacdjlidaaRx28
namespace Go.Proofs.Ytoplhlacdjlidaa.R
open Go.RowKit Go.Proofs.Ytoplhlacdjlidaa.Co Go.Proofs.Ytoplhlacdjlidaa.Ret Go.Proofs.Ytoplhlacdjlidaa.Plain Go.Proofs.YtoplhlacdjlidaaW.PrintWords Go.Proofs.YtoplhlacdjlidaaW.PrintLast Go.Proofs.YtoplhlacdjlidaaW.PrintMore
attribute [local go_sem] max2_int min2_int max_two min_two max_three min_three max_four min_four   -- for this text's walks alone
set_option linter.unusedVariables false
set_option linter.unusedSimpArgs false

/-! ### millhandref23_Cut: function 33 -/
mutual
def millhandref23_Cut.j0 : Nat → List Int → Int → Int → Bool → Option ((List (S40)) × List Int × Bool)
 | 0, _, _, _, _ => none
 | k + 1, x0, x6, x7, x29 => if x29 = true then (some (([] : List (S40)), ([] : List Int), false)) else (if 0 ≤ x7 then (if x7 ≤ (x0.length : Int) then (millhandref23_Cut.l0 k (x0.drop (x7 : Int).toNat) x6 0 ([] : List (S40))) else (none)) else (none))
def millhandref23_Cut.l0 : Nat → List Int → Int → Int → List (S40) → Option ((List (S40)) × List Int × Bool)
 | 0, _, _, _, _ => none
 | k + 1, x0, x6, x9, x612000 => if x9 < (wrap64 (x6)) then ((millhandref01_Read.f k x0).bind fun bt622 => (if bt622.2.2 = 0 then (millhandref23_Cut.j2 k x0 x6 x9 bt622.1 bt622.2.1 (decide (bt622.1 > 12)) x612000 0 0) else (millhandref23_Cut.j2 k x0 x6 x9 bt622.1 bt622.2.1 true x612000 0 0))) else ((millhandref23_May.f k x612000).bind fun t620 => (some (x612000, x0, t620)))
def millhandref23_Cut.j2 : Nat → List Int → Int → Int → Int → Int → Bool → List (S40) → Int → Int → Option ((List (S40)) × List Int × Bool)
 | 0, _, _, _, _, _, _, _, _, _ => none
 | k + 1, x0, x6, x9, x11, x12, x51, x612000, x622001, x622002 => if x51 = true then (some (x612000, ([] : List Int), false)) else (if 0 ≤ x12 then (if x12 ≤ (x0.length : Int) then (millhandref23_Cut.l1 k (x0.drop (x12 : Int).toNat) x6 x9 x11 0 x612000 ([] : List Int) x622001 x622002) else (none)) else (none))
def millhandref23_Cut.l1 : Nat → List Int → Int → Int → Int → Int → List (S40) → List Int → Int → Int → Option ((List (S40)) × List Int × Bool)
 | 0, _, _, _, _, _, _, _, _, _ => none
 | k + 1, x0, x6, x9, x11, x14, x612000, x622000, x622001, x622002 => if x14 < (wrap64 ((wrap64 (x11)) + 2)) then ((millhandref01_Read.f k x0).bind fun bt633 => (if bt633.2.2 = 0 then (millhandref23_Cut.j4 k x0 x6 x9 x11 x14 bt633.1 bt633.2.1 (decide (bt633.1 > 1048576)) x612000 x622000 x622001 x622002) else (millhandref23_Cut.j4 k x0 x6 x9 x11 x14 bt633.1 bt633.2.1 true x612000 x622000 x622001 x622002))) else (if x612000.length < 3518437208883 then (millhandref23_Cut.l0 k x0 x6 (wrap64 (x9 + 1)) (x612000 ++ [(⟨x622000, x622001, x622002⟩ : S40)])) else (none))
def millhandref23_Cut.j4 : Nat → List Int → Int → Int → Int → Int → Int → Int → Bool → List (S40) → List Int → Int → Int → Option ((List (S40)) × List Int × Bool)
 | 0, _, _, _, _, _, _, _, _, _, _, _, _ => none
 | k + 1, x0, x6, x9, x11, x14, x15, x16, x74, x612000, x622000, x622001, x622002 => if x74 = true then (some (x612000, ([] : List Int), false)) else (if 0 ≤ x16 then (if x16 ≤ (x0.length : Int) then ((some (x0.drop (x16 : Int).toNat : List Int)).bind fun y636 => (if x14 < (wrap64 (x11)) then (if x622000.length < 17592186044416 then (millhandref23_Cut.l1 k y636 x6 x9 x11 (wrap64 (x14 + 1)) x612000 (x622000 ++ [wrap64 (x15)]) x622001 x622002) else (none)) else (if x14 = (wrap64 (x11)) then (millhandref23_Cut.l1 k y636 x6 x9 x11 (wrap64 (x14 + 1)) x612000 x622000 (wrap64 (x15)) x622002) else (millhandref23_Cut.l1 k y636 x6 x9 x11 (wrap64 (x14 + 1)) x612000 x622000 x622001 (wrap64 (x15)))))) else (none)) else (none))
end
def millhandref23_Cut.f (k : Nat) (l0 : List Int) : Option ((List (S40)) × List Int × Bool) := (millhandref01_Read.f k l0).bind fun bt612 => (if bt612.2.2 = 0 then (millhandref23_Cut.j0 k l0 bt612.1 bt612.2.1 (decide (bt612.1 > 12))) else (millhandref23_Cut.j0 k l0 bt612.1 bt612.2.1 true))
set_option maxHeartbeats 8000000 in
set_option maxRecDepth 100000 in
theorem millhandref23_Cut.calls (k : Nat) (P0_ : Nat → Prop) (A0 : Option Addr) (c0 : Nat) (l0 : List Int) (r1 : List (S40)) (r2 : List Int) (r3 : Bool) (w : World) (hs0 : Kd.V (Kd.int .u8) 5 w w.heap.size (fun k_ => P0_ k_) (.slice A0 l0.length c0) l0) (h : millhandref23_Cut.f k l0 = some (r1, r2, r3)) :
  Calls Try.prog 33 #[.slice A0 l0.length c0] w fun e w' => ∃ v0_ v1_ : Value, e = .returned (.tuple #[.agg #[v0_], v1_, .bool r3]) ∧ Kd.S k40 40 w' w.heap.size (fun k_ => (w.heap.size ≤ k_)) v0_ r1 ∧ Kd.V (Kd.int .u8) 5 w' w.heap.size (fun k_ => (P0_ k_ ∨ w.heap.size ≤ k_) ∧ some k_ ≠ (v0_ : Value).ownBlock) v1_ r2 ∧ Below w.heap.size w w' := by
 have hu25 := Try.underlying25
 have hu40 := Try.underlying40
 have HO0 := Aside0.mk (show Kd.V (Kd.int .u8) 5 w w.heap.size (fun k_ => (P0_ k_ ∨ w.heap.size ≤ k_)) (.slice A0 l0.length c0) l0 from Kd.V_mono hs0 (fun k_ hk => .inl hk))
 have HB := Aside0.mk (Below.refl w.heap.size w)
 have H : ((millhandref01_Read.f k l0).bind fun bt612 => (if bt612.2.2 = 0 then (millhandref23_Cut.j0 k l0 bt612.1 bt612.2.1 (decide (bt612.1 > 12))) else (millhandref23_Cut.j0 k l0 bt612.1 bt612.2.1 true))) = some (r1, r2, r3) := h
 clear h
 replace H := Option.bind_eq_some_iff.mp H
 obtain ⟨⟨t612, t613, t614⟩, A20, H⟩ := H
 replace H : (if t614 = 0 then (millhandref23_Cut.j0 k l0 t612 t613 (decide (t612 > 12))) else (millhandref23_Cut.j0 k l0 t612 t613 true)) = some (r1, r2, r3) := H
 have A2 := Aside0.mk A20
 clear A20
 have HC3 := Aside0.mk H
 clear H
 go_enter Try.func33, Try.ntmps33
 go_upto_region 3 with (first | ((with_reducible refine gate_dst (N := 2) rfl ?_); refine box_event ?hg (N := 2) ?hd (cs := #[.slice none 0 0]) (t := 25) ?hr ?_; (case hd => rfl); (case hg => rfl); (case hr => first | (go_simp; done) | (go_simp; rfl)); intro gb610 hg w4 hbox hb; have n0_ := Aside0.mk (Kd.V_below (Kd.V_elderB (by (with_reducible repeat (first | apply Kd.V_alloc | apply Kd.V_drewN | apply Kd.V_drew)); exact HO0.out) gb610 (Nat.le_of_eq hg.symm)) hb); have n1_ := Aside0.mk (below_step (by repeat (first | (with_reducible first | exact HB.out | apply below_alloc | apply pw_below_drewN | apply below_drew1) | exact HB.out)) hb); have n2_ := Aside0.mk (hbox); have n3_ := Aside0.mk ((by rw [hg]; exact (below_size (by repeat (first | (with_reducible first | exact HB.out | apply below_alloc | apply pw_below_drewN | apply below_drew1) | exact HB.out))) : w.heap.size ≤ gb610)); have n4_ := Aside0.mk ((by rw [hg]; exact (below_size (by repeat (first | (with_reducible first | exact HB.out | apply below_alloc | apply pw_below_drewN | apply below_drew1) | exact HB.out))) : w.heap.size ≤ gb610)); clear HO0; clear HB; have HO0 := n0_; have HB := n1_; have BK610 := n2_; have GW610 := n3_; have GE610 := n4_; clear n0_ n1_ n2_ n3_ n4_; clear hb hbox hg) | ((with_reducible refine gate_dst (N := 5) rfl ?_); refine box_event ?hg (N := 5) ?hd (cs := #[.slice none 0 0]) (t := 25) ?hr ?_; (case hd => rfl); (case hg => rfl); (case hr => first | (go_simp; done) | (go_simp; rfl)); intro gb611 hg w5 hbox hb; have n0_ := Aside0.mk (Kd.V_below (Kd.V_elderB (by (with_reducible repeat (first | apply Kd.V_alloc | apply Kd.V_drewN | apply Kd.V_drew)); exact HO0.out) gb611 (Nat.le_of_eq hg.symm)) hb); have n1_ := Aside0.mk (blk_below (g := gb610) (o := .cells #[.slice none 0 0] 25 (0, 0)) (by (with_reducible repeat (first | refine blk_drewN ?_ _ | refine blk_drew ?_ | refine blk_alloc ?_ _)); exact BK610.out) hb); have n2_ := Aside0.mk (below_step (by repeat (first | (with_reducible first | exact HB.out | apply below_alloc | apply pw_below_drewN | apply below_drew1 | refine below_set ?_ GE610.out) | exact HB.out)) hb); have n3_ := Aside0.mk (hbox); have n4_ := Aside0.mk ((by rw [hg]; exact (below_size (by repeat (first | (with_reducible first | exact HB.out | apply below_alloc | apply pw_below_drewN | apply below_drew1 | refine below_set ?_ GE610.out) | exact HB.out))) : w.heap.size ≤ gb611)); have n5_ := Aside0.mk ((by rw [hg]; exact (below_size (by repeat (first | (with_reducible first | exact HB.out | apply below_alloc | apply pw_below_drewN | apply below_drew1 | refine below_set ?_ GE610.out) | exact HB.out))) : w.heap.size ≤ gb611)); have n6_ := Aside0.mk ((by rw [hg]; exact Nat.ne_of_lt (blk_lt (g := gb610) (o := .cells #[.slice none 0 0] 25 (0, 0)) (by (with_reducible repeat (first | refine blk_drewN ?_ _ | refine blk_drew ?_ | refine blk_alloc ?_ _)); exact BK610.out)) : gb610 ≠ gb611)); have n7_ := Aside0.mk ((by rw [hg]; exact Nat.ne_of_gt (blk_lt (g := gb610) (o := .cells #[.slice none 0 0] 25 (0, 0)) (by (with_reducible repeat (first | refine blk_drewN ?_ _ | refine blk_drew ?_ | refine blk_alloc ?_ _)); exact BK610.out)) : gb611 ≠ gb610)); clear HO0; clear BK610; clear HB; have HO0 := n0_; have BK610 := n1_; have HB := n2_; have BK611 := n3_; have GW611 := n4_; have GE611 := n5_; have NB610_611 := n6_; have NB611_610 := n7_; clear n0_ n1_ n2_ n3_ n4_ n5_ n6_ n7_; clear hb hbox hg) | ((with_reducible refine gate_callee (f := 48) rfl ?_); refine goesL_ (some 20) rfl rfl Try.func48 (by kernel_rfl) rfl #[.slice A0 l0.length c0] rfl (by (try simp only [List.map_toArray, List.map_cons, List.map_nil]); first | done | rfl | (simp only [List.length_drop, List.length_take]; rfl)) ?_; (with_reducible refine (millhandref01_Read.calls k _ _ l0 t612 t613 t614 _ ?side1 ?side2 A2.out).mono ?_); (case side1 => repeat (first | exact (Kd.V_reads' HO0.out).2.2 | (with_reducible refine Kd.C_alloc ?_ _) | (with_reducible refine Kd.C_drewN ?_ _) | (with_reducible refine Kd.C_drew ?_))); (case side2 => exact (Kd.V_reads' HO0.out).2.1); rintro e w6 ⟨rfl, hb⟩; refine ⟨_, rfl, ?_⟩; have n0_ := Aside0.mk (Kd.V_below (by (with_reducible repeat (first | apply Kd.V_alloc | apply Kd.V_drewN | apply Kd.V_drew)); exact HO0.out) hb); have n1_ := Aside0.mk (blk_below (g := gb610) (o := .cells #[.slice none 0 0] 25 (0, 0)) (by (with_reducible repeat (first | refine blk_drewN ?_ _ | refine blk_drew ?_ | refine blk_alloc ?_ _)); exact BK610.out) hb); have n2_ := Aside0.mk (blk_below (g := gb611) (o := .cells #[.slice none 0 0] 25 (0, 0)) (by (with_reducible repeat (first | refine blk_drewN ?_ _ | refine blk_drew ?_ | refine blk_alloc ?_ _)); exact BK611.out) hb); have n3_ := Aside0.mk (below_step (by repeat (first | (with_reducible first | exact HB.out | apply below_alloc | apply pw_below_drewN | apply below_drew1 | refine below_set ?_ GE610.out | refine below_set ?_ GE611.out) | exact HB.out)) hb); clear HO0; clear BK610; clear BK611; clear HB; have HO0 := n0_; have BK610 := n1_; have BK611 := n2_; have HB := n3_; clear n0_ n1_ n2_ n3_; (try clear hb); (try clear hb2); (try clear hk); (try clear hi)))
 (try simp only [Act.put, sa_, s0_, s1_])
 go_cut [29] (fun v29 wc => ∃ (kq : Nat) (x29_2 : Bool), v29 = .bool x29_2 ∧ Aside0 (millhandref23_Cut.j0 kq l0 t612 t613 x29_2 = some (r1, r2, r3)) ∧ Aside0 (kq ≤ k) ∧ Aside0 (Kd.V (Kd.int .u8) 5 wc w.heap.size (fun k_ => (P0_ k_ ∨ w.heap.size ≤ k_) ∧ k_ ≠ gb610 ∧ k_ ≠ gb611) (.slice A0 l0.length c0) l0) ∧ Aside0 (wc.heap[gb610]? = some (.cells #[(.slice none 0 0)] 25 (0, 0))) ∧ Aside0 (wc.heap[gb611]? = some (.cells #[(.slice none 0 0)] 25 (0, 0))) ∧ Aside0 (Below w.heap.size w wc))
 case first =>
  have H := HC3.out
  clear HC3
  by_cases c7 : t614 = 0
  ·
   rw [if_pos c7] at H
   have c7b0 : (t614 == 0) = true := beq_iff_eq.mpr c7
   have c7b1 : (t614 != 0) = false := bne_eq_false_iff_eq.mpr c7
   clear c7
   (first | rw [c7b0] | (simp only [i64_w, i32_w]; rw [c7b0]) | skip)
   have H' := Aside0.mk H
   clear H
   go_wp2
   go_meet
   case rel => exact ⟨_, (decide (t612 > 12)), (by first | rfl | (simp; done) | (simp [*]; done)), H', ⟨by first | omega | exact Nat.le_refl _⟩, ⟨by (with_reducible repeat (first | apply Kd.V_alloc | apply Kd.V_drewN | apply Kd.V_drew)); exact Kd.V_mono HO0.out (fun _ hk => ⟨hk.1.1, ⟨hk.1.2, hk.2⟩⟩)⟩, ⟨by (with_reducible repeat (first | refine blk_drewN ?_ _ | refine blk_drew ?_ | refine blk_alloc ?_ _)); exact BK610.out⟩, ⟨by (with_reducible repeat (first | refine blk_drewN ?_ _ | refine blk_drew ?_ | refine blk_alloc ?_ _)); exact BK611.out⟩, ⟨by repeat (first | (with_reducible first | exact HB.out | apply below_alloc | apply pw_below_drewN | apply below_drew1 | refine below_set ?_ GE610.out | refine below_set ?_ GE611.out) | exact HB.out)⟩⟩
  ·
   rw [if_neg c7] at H
   have c7b0 : (t614 == 0) = false := beq_eq_false_iff_ne.mpr c7
   have c7b1 : (t614 != 0) = true := bne_iff_ne.mpr c7
   (first | rw [c7b0] | (simp only [i64_w, i32_w]; rw [c7b0]) | skip)
   have H' := Aside0.mk H
   clear H
   go_wp2
   go_meet
   case rel => exact ⟨_, (true), (by first | rfl | (simp; done) | (simp [*]; done)), H', ⟨by first | omega | exact Nat.le_refl _⟩, ⟨by (with_reducible repeat (first | apply Kd.V_alloc | apply Kd.V_drewN | apply Kd.V_drew)); exact Kd.V_mono HO0.out (fun _ hk => ⟨hk.1.1, ⟨hk.1.2, hk.2⟩⟩)⟩, ⟨by (with_reducible repeat (first | refine blk_drewN ?_ _ | refine blk_drew ?_ | refine blk_alloc ?_ _)); exact BK610.out⟩, ⟨by (with_reducible repeat (first | refine blk_drewN ?_ _ | refine blk_drew ?_ | refine blk_alloc ?_ _)); exact BK611.out⟩, ⟨by repeat (first | (with_reducible first | exact HB.out | apply below_alloc | apply pw_below_drewN | apply below_drew1 | refine below_set ?_ GE610.out | refine below_set ?_ GE611.out) | exact HB.out)⟩⟩
 case rest =>
  clear HC3
  try clear p2
  try clear c3
  try clear c4
  try clear c7
  try clear c7b0
  try clear c7b1
  obtain ⟨kq, x29_2, rfl, HA, HJ2, HO_0, BK610, BK611, HB⟩ := hcut
  cases kq with
  | zero => exact absurd HA.out (by simp [millhandref23_Cut.j0])
  | succ kj2 =>
   have H := HA.out
   clear HA
   simp only [millhandref23_Cut.j0] at H
   by_cases c8 : x29_2 = true
   ·
    subst c8
    have H1 : (some (([] : List (S40)), ([] : List Int), false)) = some (r1, r2, r3) := by rw [if_pos rfl] at H; exact H
    clear H
    have H := H1
    clear H1
    simp only [Option.some.injEq, Prod.mk.injEq] at H
    obtain ⟨rfl, rfl, rfl⟩ := H
    have hnb9 := NB611_610.out
    have hnc9 := NB610_611.out
    have hcz10_0 : wc.cell? ⟨gb611, 0, none⟩ = some (.slice none 0 0) := (blk_cell BK611.out 0).trans rfl
    have hfz10_0 := blk_frozen BK611.out 0
    have hcz11_0 : wc.cell? ⟨gb610, 0, none⟩ = some (.slice none 0 0) := (blk_cell BK610.out 0).trans rfl
    have hfz11_0 := blk_frozen BK610.out 0
    go_wp2
    refine bodyPost_ret (results_ctt rfl _ _ gb610 25 #[.slice none 0 0] (0, 0) _ rfl (by (with_reducible repeat (first | refine blk_drewN ?_ _ | refine blk_drew ?_ | refine blk_alloc ?_ _)); refine blk_put (cs := #[.slice none 0 0]) ?_ 0 _ rfl; (with_reducible repeat (first | refine blk_drewN ?_ _ | refine blk_drew ?_ | refine blk_alloc ?_ _)); exact BK610.out) Try.underlying25 rfl (by kernel_rfl)) rfl ?_
    exact ⟨_, _, by first | rfl | (simp [errW_none, errW_some] <;> rfl) | (simp [*, errW_none, errW_some] <;> rfl) | exact ret_ie _ | (simp [*, errW_none, errW_some, bne]; done), by first | exact Kd.S_nil _ _ _ _ _ | exact Kd.N_nil _ _ _ _ _ | exact Kd.V_nil _ _ _ _ _ | exact Kd.Q_nil _ _ _ _ _ | exact Kd.R_nil _ _ _ _ _, Kd.V_nil _ _ _ _ _, by repeat (first | (with_reducible first | exact HB.out | apply below_alloc | apply pw_below_drewN | apply below_drew1 | refine below_set ?_ GE610.out | refine below_set ?_ GE611.out) | exact HB.out)⟩
   ·
    replace c8 := Bool.eq_false_iff.mpr c8
    subst c8
    have H1 : (if 0 ≤ t613 then (if t613 ≤ (l0.length : Int) then (millhandref23_Cut.l0 kj2 (l0.drop (t613 : Int).toNat) t612 0 ([] : List (S40))) else (none)) else (none)) = some (r1, r2, r3) := by rw [if_neg (show ¬ (false = true) by decide)] at H; exact H
    clear H
    have H := H1
    clear H1
    by_cases c12 : 0 ≤ t613
    ·
     rw [if_pos c12] at H
     have c12b0 := eq_true c12
     have c12b1 : decide (0 ≤ t613) = true := decide_eq_true c12
     clear c12
     by_cases c13 : t613 ≤ (l0.length : Int)
     ·
      rw [if_pos c13] at H
      have c13b0 := eq_true c13
      have c13b1 : decide (t613 ≤ (l0.length : Int)) = true := decide_eq_true c13
      clear c13
      obtain ⟨y615, hy615⟩ : ∃ y_ : List Int, y_ = (l0.drop (t613 : Int).toNat) := ⟨_, rfl⟩
      replace H : (millhandref23_Cut.l0 kj2 y615 t612 0 ([] : List (S40))) = some (r1, r2, r3) := by first | (rw [hy615]; with_reducible exact H) | (have H2_ := (Option.bind_some _ _).symm.trans H; rw [hy615]; with_reducible exact H2_) | (have H2_ := (Option.bind_some _ _).symm.trans H; with_reducible exact H2_) | with_reducible exact H | (rw [hy615]; exact H) | exact H
      have Ny615 := Aside0.mk hy615
      clear hy615
      have H' := Aside0.mk H
      clear H
      have q14 : (t613 : Int) ≤ ((l0.length : Int) : Int) := of_decide_eq_true (by first | (with_reducible assumption) | assumption)
      obtain ⟨i014, hi014, _, hsz14, _⟩ := info_parts info5
      have hroom14 : l0.length ≤ c0 := (Kd.V_reads' HO_0.out).2.1
      have hC14 : Kd.F (Kd.int .u8) _ _ A0 l0.length l0 := (Kd.V_at (base := w.heap.size) HO_0.out).2.2
      have q014 : (0 : Int) ≤ (t613 : Int) := of_decide_eq_true (by first | (with_reducible assumption) | assumption)
      have hcut14 := cut_from (P := Try.prog) 22 5 .i64 Try.underlying22 hi014 1 hsz14 A0 l0.length c0 t613 q014 q14
      have hr14 := Kd.F_cut (m := (t613 : Int).toNat) (c := c0) hC14 (by omega) hroom14
      obtain ⟨A14, hA14⟩ : ∃ A1, A1 = (if c0 = (t613 : Int).toNat then A0 else (A0 : Option Addr).map (·.add ((t613 : Int).toNat * 1))) := ⟨_, rfl⟩
      obtain ⟨c14, hc14⟩ : ∃ c1, c1 = c0 - (t613 : Int).toNat := ⟨_, rfl⟩
      have hy14 : y615.length = l0.length - (t613 : Int).toNat := (by rw [Ny615.out, List.length_drop] <;> omega)
      rw [show (l0).drop (t613 : Int).toNat = y615 from Ny615.out.symm] at hr14
      replace hr14 : Kd.F (Kd.int .u8) _ _ A14 y615.length y615 := (by rw [hA14]; exact hr14)
      rw [← hy14, ← hA14, ← hc14] at hcut14
      have HO619 := Aside0.mk (show Kd.V (Kd.int .u8) 5 _ w.heap.size _ (.slice A14 y615.length c14) y615 from Kd.V_mk (by rw [hy14, hc14]; exact Nat.sub_le_sub_right hroom14 _) hr14)
      have HC619 := Aside0.mk (show y615.length ≤ c14 from by rw [hy14, hc14]; exact Nat.sub_le_sub_right hroom14 _)
      clear hr14 hC14 hroom14 hi014 hsz14 hc14
      have KY14 := Aside0.mk hy14
      have KA14 := Aside0.mk hA14
      clear hy14 hA14
      replace q14 := eq_true q14
      go_wp2
      go_loopg [0, 9] kj2 (fun kq v0 v9 w' => ∃ (x0_2 : List Int) (x9_2 : Int) (x612000_2 : List (S40)) (u612000 : Value), v9 = .int .i64 x9_2 ∧ Aside0 (millhandref23_Cut.l0 kq x0_2 t612 x9_2 x612000_2 = some (r1, r2, r3)) ∧ Aside0 (kq ≤ kj2) ∧ Aside0 (Kd.V (Kd.int .u8) 5 w' w.heap.size (fun k_ => (P0_ k_ ∨ w.heap.size ≤ k_) ∧ some k_ ≠ (u612000 : Value).ownBlock ∧ k_ ≠ gb610 ∧ k_ ≠ gb611) v0 x0_2) ∧ Aside0 (Kd.S k40 40 w' w.heap.size (fun k_ => (w.heap.size ≤ k_)) u612000 x612000_2) ∧ Aside0 (w'.heap[gb610]? = some (.cells #[(.slice none 0 0)] 25 (0, 0))) ∧ Aside0 (w'.heap[gb611]? = some (.cells #[u612000] 25 (0, 0))) ∧ Aside0 (Below w.heap.size w w'))
      case atStart => exact ⟨(y615), (0), (([] : List (S40))), (.slice none 0 0), (by first | rfl | (simp; done) | (simp [*]; done)), H', ⟨Nat.le_refl _⟩, ⟨by (with_reducible repeat (first | apply Kd.V_alloc | apply Kd.V_drewN | apply Kd.V_drew)); exact Kd.V_mono HO619.out (fun _ hk => ⟨hk.1, ⟨(by simp [Value.ownBlock]), ⟨hk.2.1, hk.2.2⟩⟩⟩)⟩, ⟨by first | exact Kd.S_nil _ _ _ _ _ | exact Kd.N_nil _ _ _ _ _ | exact Kd.V_nil _ _ _ _ _ | exact Kd.Q_nil _ _ _ _ _ | exact Kd.R_nil _ _ _ _ _⟩, ⟨by (with_reducible repeat (first | refine blk_drewN ?_ _ | refine blk_drew ?_ | refine blk_alloc ?_ _)); exact BK610.out⟩, ⟨by (with_reducible repeat (first | refine blk_drewN ?_ _ | refine blk_drew ?_ | refine blk_alloc ?_ _)); exact BK611.out⟩, ⟨by repeat (first | (with_reducible first | exact HB.out | apply below_alloc | apply pw_below_drewN | apply below_drew1 | refine below_set ?_ GE610.out | refine below_set ?_ GE611.out) | exact HB.out)⟩⟩
      case round =>
       clear H'
       try clear c1
       try clear q1
       try clear p2
       try clear c3
       try clear c4
       try clear c7
       try clear c7b0
       try clear c7b1
       try clear c8
       try clear c9
       try clear c12
       try clear c12b0
       try clear c12b1
       try clear c13
       try clear c13b0
       try clear c13b1
       try clear c14
       try clear q14
       try clear hcz10_0
       try clear hcz11_0
       try clear hfz10_0
       try clear hfz11_0
       try clear p2
       try clear q014
       try clear q14
       obtain ⟨x0_2, x9_2, x612000_2, u612000, rfl, HA, HK2, HO_0, HO_612000, BK610, BK611, HB⟩ := hrel
       cases gk with
       | zero => exact absurd HA.out (by simp [millhandref23_Cut.l0])
       | succ k2 =>
        have H := HA.out
        clear HA
        simp only [millhandref23_Cut.l0] at H
        by_cases c15 : x9_2 < (wrap64 (t612))
        ·
         rw [if_pos c15] at H
         have c15b0 : decide (x9_2 < (wrap64 (t612))) = true := decide_eq_true c15
         clear c15
         replace H := Option.bind_eq_some_iff.mp H
         obtain ⟨⟨t622, t623, t624⟩, A160, H⟩ := H
         replace H : (if t624 = 0 then (millhandref23_Cut.j2 k2 x0_2 t612 x9_2 t622 t623 (decide (t622 > 12)) x612000_2 0 0) else (millhandref23_Cut.j2 k2 x0_2 t612 x9_2 t622 t623 true x612000_2 0 0)) = some (r1, r2, r3) := H
         have A16 := Aside0.mk A160
         clear A160
         have HC17 := Aside0.mk H
         clear H
         go_upto_region 11 with (first | ((with_reducible refine gate_dst (N := 10) rfl ?_); refine box_event ?hg (N := 10) ?hd (cs := #[.slice none 0 0, .int .i64 0, .int .i64 0]) (t := 40) ?hr ?_; (case hd => rfl); (case hg => rfl); (case hr => first | (go_simp; done) | (go_simp; rfl)); intro gb621 hg w18 hbox hb; have n0_ := Aside0.mk (Kd.V_below (Kd.V_elderB (by (with_reducible repeat (first | apply Kd.V_alloc | apply Kd.V_drewN | apply Kd.V_drew)); exact HO_0.out) gb621 (Nat.le_of_eq hg.symm)) hb); have n1_ := Aside0.mk (Kd.S_below (Kd.S_elderB (by (with_reducible repeat (first | apply Kd.S_alloc | apply Kd.S_drewN | apply Kd.S_drew)); exact HO_612000.out) gb621 (Nat.le_of_eq hg.symm)) hb); have n2_ := Aside0.mk (blk_below (g := gb610) (o := .cells #[.slice none 0 0] 25 (0, 0)) (by (with_reducible repeat (first | refine blk_drewN ?_ _ | refine blk_drew ?_ | refine blk_alloc ?_ _)); exact BK610.out) hb); have n3_ := Aside0.mk (blk_below (g := gb611) (o := .cells #[u612000] 25 (0, 0)) (by (with_reducible repeat (first | refine blk_drewN ?_ _ | refine blk_drew ?_ | refine blk_alloc ?_ _)); exact BK611.out) hb); have n4_ := Aside0.mk (below_step (by repeat (first | (with_reducible first | exact HB.out | apply below_alloc | apply pw_below_drewN | apply below_drew1 | refine below_set ?_ GE610.out | refine below_set ?_ GE611.out) | exact HB.out)) hb); have n5_ := Aside0.mk (hbox); have n6_ := Aside0.mk ((by rw [hg]; exact (below_size (by repeat (first | (with_reducible first | exact HB.out | apply below_alloc | apply pw_below_drewN | apply below_drew1 | refine below_set ?_ GE610.out | refine below_set ?_ GE611.out) | exact HB.out))) : w.heap.size ≤ gb621)); have n7_ := Aside0.mk ((by rw [hg]; exact (below_size (by repeat (first | (with_reducible first | exact HB.out | apply below_alloc | apply pw_below_drewN | apply below_drew1 | refine below_set ?_ GE610.out | refine below_set ?_ GE611.out) | exact HB.out))) : w.heap.size ≤ gb621)); have n8_ := Aside0.mk ((by rw [hg]; exact Nat.ne_of_lt (blk_lt (g := gb610) (o := .cells #[.slice none 0 0] 25 (0, 0)) (by (with_reducible repeat (first | refine blk_drewN ?_ _ | refine blk_drew ?_ | refine blk_alloc ?_ _)); exact BK610.out)) : gb610 ≠ gb621)); have n9_ := Aside0.mk ((by rw [hg]; exact Nat.ne_of_gt (blk_lt (g := gb610) (o := .cells #[.slice none 0 0] 25 (0, 0)) (by (with_reducible repeat (first | refine blk_drewN ?_ _ | refine blk_drew ?_ | refine blk_alloc ?_ _)); exact BK610.out)) : gb621 ≠ gb610)); have n10_ := Aside0.mk ((by rw [hg]; exact Nat.ne_of_lt (blk_lt (g := gb611) (o := .cells #[u612000] 25 (0, 0)) (by (with_reducible repeat (first | refine blk_drewN ?_ _ | refine blk_drew ?_ | refine blk_alloc ?_ _)); exact BK611.out)) : gb611 ≠ gb621)); have n11_ := Aside0.mk ((by rw [hg]; exact Nat.ne_of_gt (blk_lt (g := gb611) (o := .cells #[u612000] 25 (0, 0)) (by (with_reducible repeat (first | refine blk_drewN ?_ _ | refine blk_drew ?_ | refine blk_alloc ?_ _)); exact BK611.out)) : gb621 ≠ gb611)); clear HO_0; clear HO_612000; clear BK610; clear BK611; clear HB; have HO_0 := n0_; have HO_612000 := n1_; have BK610 := n2_; have BK611 := n3_; have HB := n4_; have BK621 := n5_; have GW621 := n6_; have GE621 := n7_; have NB610_621 := n8_; have NB621_610 := n9_; have NB611_621 := n10_; have NB621_611 := n11_; clear n0_ n1_ n2_ n3_ n4_ n5_ n6_ n7_ n8_ n9_ n10_ n11_; clear hb hbox hg; obtain ⟨Ao19, co19, eo19⟩ := Kd.V_slice HO_0.out; subst eo19) | ((with_reducible refine gate_callee (f := 48) rfl ?_); refine goesL_ (some 42) rfl rfl Try.func48 (by kernel_rfl) rfl #[.slice Ao19 x0_2.length co19] rfl (by (try simp only [List.map_toArray, List.map_cons, List.map_nil]); first | done | rfl | (simp only [List.length_drop, List.length_take]; rfl)) ?_; (with_reducible refine (millhandref01_Read.calls k2 _ _ x0_2 t622 t623 t624 _ ?side1 ?side2 A16.out).mono ?_); (case side1 => repeat (first | exact (Kd.V_reads' HO_0.out).2.2 | (with_reducible refine Kd.C_alloc ?_ _) | (with_reducible refine Kd.C_drewN ?_ _) | (with_reducible refine Kd.C_drew ?_))); (case side2 => exact (Kd.V_reads' HO_0.out).2.1); rintro e w20 ⟨rfl, hb⟩; refine ⟨_, rfl, ?_⟩; have n0_ := Aside0.mk (Kd.V_below (by (with_reducible repeat (first | apply Kd.V_alloc | apply Kd.V_drewN | apply Kd.V_drew)); exact HO_0.out) hb); have n1_ := Aside0.mk (Kd.S_below (by (with_reducible repeat (first | apply Kd.S_alloc | apply Kd.S_drewN | apply Kd.S_drew)); exact HO_612000.out) hb); have n2_ := Aside0.mk (blk_below (g := gb610) (o := .cells #[.slice none 0 0] 25 (0, 0)) (by (with_reducible repeat (first | refine blk_drewN ?_ _ | refine blk_drew ?_ | refine blk_alloc ?_ _)); exact BK610.out) hb); have n3_ := Aside0.mk (blk_below (g := gb611) (o := .cells #[u612000] 25 (0, 0)) (by (with_reducible repeat (first | refine blk_drewN ?_ _ | refine blk_drew ?_ | refine blk_alloc ?_ _)); exact BK611.out) hb); have n4_ := Aside0.mk (blk_below (g := gb621) (o := .cells #[.slice none 0 0, .int .i64 0, .int .i64 0] 40 (0, 0)) (by (with_reducible repeat (first | refine blk_drewN ?_ _ | refine blk_drew ?_ | refine blk_alloc ?_ _)); exact BK621.out) hb); have n5_ := Aside0.mk (below_step (by repeat (first | (with_reducible first | exact HB.out | apply below_alloc | apply pw_below_drewN | apply below_drew1 | refine below_set ?_ GE610.out | refine below_set ?_ GE611.out | refine below_set ?_ GE621.out) | exact HB.out)) hb); clear HO_0; clear HO_612000; clear BK610; clear BK611; clear BK621; clear HB; have HO_0 := n0_; have HO_612000 := n1_; have BK610 := n2_; have BK611 := n3_; have BK621 := n4_; have HB := n5_; clear n0_ n1_ n2_ n3_ n4_ n5_; (try clear hb); (try clear hb2); (try clear hk); (try clear hi)))
         (try simp only [Act.put, sa_, s0_, s1_])
         go_cut [51] (fun v51 wc => ∃ (kq : Nat) (x51_16 : Bool), v51 = .bool x51_16 ∧ Aside0 (millhandref23_Cut.j2 kq x0_2 t612 x9_2 t622 t623 x51_16 x612000_2 0 0 = some (r1, r2, r3)) ∧ Aside0 (kq ≤ k2) ∧ Aside0 (Kd.V (Kd.int .u8) 5 wc w.heap.size (fun k_ => (P0_ k_ ∨ w.heap.size ≤ k_) ∧ some k_ ≠ (u612000 : Value).ownBlock ∧ k_ ≠ gb610 ∧ k_ ≠ gb611 ∧ k_ ≠ gb621) (.slice Ao19 x0_2.length co19) x0_2) ∧ Aside0 (Kd.S k40 40 wc w.heap.size (fun k_ => (w.heap.size ≤ k_) ∧ k_ ≠ gb621) u612000 x612000_2) ∧ Aside0 (wc.heap[gb610]? = some (.cells #[(.slice none 0 0)] 25 (0, 0))) ∧ Aside0 (wc.heap[gb611]? = some (.cells #[u612000] 25 (0, 0))) ∧ Aside0 (wc.heap[gb621]? = some (.cells #[(.slice none 0 0), .int .i64 0, .int .i64 0] 40 (0, 0))) ∧ Aside0 (Below w.heap.size w wc))
         case first =>
          have H := HC17.out
          clear HC17
          by_cases c21 : t624 = 0
          ·
           rw [if_pos c21] at H
           have c21b0 : (t624 == 0) = true := beq_iff_eq.mpr c21
           have c21b1 : (t624 != 0) = false := bne_eq_false_iff_eq.mpr c21
           clear c21
           (first | rw [c21b0] | (simp only [i64_w, i32_w]; rw [c21b0]) | skip)
           have H' := Aside0.mk H
           clear H
           go_wp2
           go_meet
           case rel => exact ⟨_, (decide (t622 > 12)), (by first | rfl | (simp; done) | (simp [*]; done)), H', ⟨by have := HJ2.out; have := HK2.out; first | omega | exact Nat.le_refl _⟩, ⟨by (with_reducible repeat (first | apply Kd.V_alloc | apply Kd.V_drewN | apply Kd.V_drew)); exact Kd.V_mono HO_0.out (fun _ hk => ⟨hk.1.1, ⟨hk.1.2.1, ⟨hk.1.2.2.1, ⟨hk.1.2.2.2, hk.2⟩⟩⟩⟩)⟩, ⟨by (with_reducible repeat (first | apply Kd.S_alloc | apply Kd.S_drewN | apply Kd.S_drew)); exact HO_612000.out⟩, ⟨by (with_reducible repeat (first | refine blk_drewN ?_ _ | refine blk_drew ?_ | refine blk_alloc ?_ _)); exact BK610.out⟩, ⟨by (with_reducible repeat (first | refine blk_drewN ?_ _ | refine blk_drew ?_ | refine blk_alloc ?_ _)); exact BK611.out⟩, ⟨by (with_reducible repeat (first | refine blk_drewN ?_ _ | refine blk_drew ?_ | refine blk_alloc ?_ _)); exact BK621.out⟩, ⟨by repeat (first | (with_reducible first | exact HB.out | apply below_alloc | apply pw_below_drewN | apply below_drew1 | refine below_set ?_ GE610.out | refine below_set ?_ GE611.out | refine below_set ?_ GE621.out) | exact HB.out)⟩⟩
          ·
           rw [if_neg c21] at H
           have c21b0 : (t624 == 0) = false := beq_eq_false_iff_ne.mpr c21
           have c21b1 : (t624 != 0) = true := bne_iff_ne.mpr c21
           (first | rw [c21b0] | (simp only [i64_w, i32_w]; rw [c21b0]) | skip)
           have H' := Aside0.mk H
           clear H
           go_wp2
           go_meet
           case rel => exact ⟨_, (true), (by first | rfl | (simp; done) | (simp [*]; done)), H', ⟨by have := HJ2.out; have := HK2.out; first | omega | exact Nat.le_refl _⟩, ⟨by (with_reducible repeat (first | apply Kd.V_alloc | apply Kd.V_drewN | apply Kd.V_drew)); exact Kd.V_mono HO_0.out (fun _ hk => ⟨hk.1.1, ⟨hk.1.2.1, ⟨hk.1.2.2.1, ⟨hk.1.2.2.2, hk.2⟩⟩⟩⟩)⟩, ⟨by (with_reducible repeat (first | apply Kd.S_alloc | apply Kd.S_drewN | apply Kd.S_drew)); exact HO_612000.out⟩, ⟨by (with_reducible repeat (first | refine blk_drewN ?_ _ | refine blk_drew ?_ | refine blk_alloc ?_ _)); exact BK610.out⟩, ⟨by (with_reducible repeat (first | refine blk_drewN ?_ _ | refine blk_drew ?_ | refine blk_alloc ?_ _)); exact BK611.out⟩, ⟨by (with_reducible repeat (first | refine blk_drewN ?_ _ | refine blk_drew ?_ | refine blk_alloc ?_ _)); exact BK621.out⟩, ⟨by repeat (first | (with_reducible first | exact HB.out | apply below_alloc | apply pw_below_drewN | apply below_drew1 | refine below_set ?_ GE610.out | refine below_set ?_ GE611.out | refine below_set ?_ GE621.out) | exact HB.out)⟩⟩
         case rest =>
          clear HC17
          try clear c1
          try clear q1
          try clear c2
          try clear p2
          try clear c3
          try clear c4
          try clear p6
          try clear c7
          try clear c7b0
          try clear c7b1
          try clear c8
          try clear c9
          try clear c12
          try clear c12b0
          try clear c12b1
          try clear c13
          try clear c13b0
          try clear c13b1
          try clear c14
          try clear q14
          try clear c15
          try clear c15b0
          try clear c21
          try clear c21b0
          try clear c21b1
          try clear hcz10_0
          try clear hcz11_0
          try clear hfz10_0
          try clear hfz11_0
          try clear p2
          try clear q014
          try clear q1
          try clear q14
          obtain ⟨kq, x51_16, rfl, HA, HJ16, HO_0, HO_612000, BK610, BK611, BK621, HB⟩ := hcut
          cases kq with
          | zero => exact absurd HA.out (by simp [millhandref23_Cut.j2])
          | succ kj16 =>
           have H := HA.out
           clear HA
           simp only [millhandref23_Cut.j2] at H
           by_cases c22 : x51_16 = true
           ·
            subst c22
            have H1 : (some (x612000_2, ([] : List Int), false)) = some (r1, r2, r3) := by rw [if_pos rfl] at H; exact H
            clear H
            have H := H1
            clear H1
            simp only [Option.some.injEq, Prod.mk.injEq] at H
            obtain ⟨rfl, rfl, rfl⟩ := H
            have hnb23 := NB611_610.out
            have hnc23 := NB610_611.out
            have hnb24 := NB611_621.out
            have hnc24 := NB621_611.out
            have hcz25_0 : wc.cell? ⟨gb611, 0, none⟩ = some (u612000) := (blk_cell BK611.out 0).trans rfl
            have hfz25_0 := blk_frozen BK611.out 0
            obtain ⟨Ao26, co26, eo26⟩ := Kd.S_slice HO_612000.out
            subst eo26
            have hnb27 := NB610_621.out
            have hnc27 := NB621_610.out
            have hcz28_0 : wc.cell? ⟨gb610, 0, none⟩ = some (.slice none 0 0) := (blk_cell BK610.out 0).trans rfl
            have hfz28_0 := blk_frozen BK610.out 0
            go_wp2
            refine bodyPost_ret (results_ctt rfl _ _ gb610 25 #[.slice Ao26 x612000_2.length co26] (0, 0) _ rfl (by (with_reducible repeat (first | refine blk_drewN ?_ _ | refine blk_drew ?_ | refine blk_alloc ?_ _)); refine blk_put (cs := #[.slice none 0 0]) ?_ 0 _ rfl; (with_reducible repeat (first | refine blk_drewN ?_ _ | refine blk_drew ?_ | refine blk_alloc ?_ _)); exact BK610.out) Try.underlying25 rfl (by kernel_rfl)) rfl ?_
            exact ⟨_, _, by first | rfl | (simp [errW_none, errW_some] <;> rfl) | (simp [*, errW_none, errW_some] <;> rfl) | exact ret_ie _ | (simp [*, errW_none, errW_some, bne]; done), by (with_reducible repeat (first | apply Kd.S_alloc | apply Kd.S_drewN | apply Kd.S_drew)); exact Kd.S_mono (Kd.S_far (p := ⟨gb610, 0, none⟩) (Kd.S_types HO_612000.out BK610.out (by decide)) (fun _ hk => hk.2) (.slice Ao26 x612000_2.length co26)) (fun _ hk => hk.1.1), Kd.V_nil _ _ _ _ _, by repeat (first | (with_reducible first | exact HB.out | apply below_alloc | apply pw_below_drewN | apply below_drew1 | refine below_set ?_ GE610.out | refine below_set ?_ GE611.out | refine below_set ?_ GE621.out) | exact HB.out)⟩
           ·
            replace c22 := Bool.eq_false_iff.mpr c22
            subst c22
            have H1 : (if 0 ≤ t623 then (if t623 ≤ (x0_2.length : Int) then (millhandref23_Cut.l1 kj16 (x0_2.drop (t623 : Int).toNat) t612 x9_2 t622 0 x612000_2 ([] : List Int) 0 0) else (none)) else (none)) = some (r1, r2, r3) := by rw [if_neg (show ¬ (false = true) by decide)] at H; exact H
            clear H
            have H := H1
            clear H1
            by_cases c29 : 0 ≤ t623
            ·
             rw [if_pos c29] at H
             have c29b0 := eq_true c29
             have c29b1 : decide (0 ≤ t623) = true := decide_eq_true c29
             clear c29
             by_cases c30 : t623 ≤ (x0_2.length : Int)
             ·
              rw [if_pos c30] at H
              have c30b0 := eq_true c30
              have c30b1 : decide (t623 ≤ (x0_2.length : Int)) = true := decide_eq_true c30
              clear c30
              obtain ⟨y625, hy625⟩ : ∃ y_ : List Int, y_ = (x0_2.drop (t623 : Int).toNat) := ⟨_, rfl⟩
              replace H : (millhandref23_Cut.l1 kj16 y625 t612 x9_2 t622 0 x612000_2 ([] : List Int) 0 0) = some (r1, r2, r3) := by first | (rw [hy625]; with_reducible exact H) | (have H2_ := (Option.bind_some _ _).symm.trans H; rw [hy625]; with_reducible exact H2_) | (have H2_ := (Option.bind_some _ _).symm.trans H; with_reducible exact H2_) | with_reducible exact H | (rw [hy625]; exact H) | exact H
              have Ny625 := Aside0.mk hy625
              clear hy625
              have H' := Aside0.mk H
              clear H
              have q31 : (t623 : Int) ≤ ((x0_2.length : Int) : Int) := of_decide_eq_true (by first | (with_reducible assumption) | assumption)
              obtain ⟨i031, hi031, _, hsz31, _⟩ := info_parts info5
              have hroom31 : x0_2.length ≤ co19 := (Kd.V_reads' HO_0.out).2.1
              have hC31 : Kd.F (Kd.int .u8) _ _ Ao19 x0_2.length x0_2 := (Kd.V_at (base := w.heap.size) HO_0.out).2.2
              have q031 : (0 : Int) ≤ (t623 : Int) := of_decide_eq_true (by first | (with_reducible assumption) | assumption)
              have hcut31 := cut_from (P := Try.prog) 22 5 .i64 Try.underlying22 hi031 1 hsz31 Ao19 x0_2.length co19 t623 q031 q31
              have hr31 := Kd.F_cut (m := (t623 : Int).toNat) (c := co19) hC31 (by omega) hroom31
              obtain ⟨A31, hA31⟩ : ∃ A1, A1 = (if co19 = (t623 : Int).toNat then Ao19 else (Ao19 : Option Addr).map (·.add ((t623 : Int).toNat * 1))) := ⟨_, rfl⟩
              obtain ⟨c31, hc31⟩ : ∃ c1, c1 = co19 - (t623 : Int).toNat := ⟨_, rfl⟩
              have hy31 : y625.length = x0_2.length - (t623 : Int).toNat := (by rw [Ny625.out, List.length_drop] <;> omega)
              rw [show (x0_2).drop (t623 : Int).toNat = y625 from Ny625.out.symm] at hr31
              replace hr31 : Kd.F (Kd.int .u8) _ _ A31 y625.length y625 := (by rw [hA31]; exact hr31)
              rw [← hy31, ← hA31, ← hc31] at hcut31
              have HO629 := Aside0.mk (show Kd.V (Kd.int .u8) 5 _ w.heap.size _ (.slice A31 y625.length c31) y625 from Kd.V_mk (by rw [hy31, hc31]; exact Nat.sub_le_sub_right hroom31 _) hr31)
              have HC629 := Aside0.mk (show y625.length ≤ c31 from by rw [hy31, hc31]; exact Nat.sub_le_sub_right hroom31 _)
              clear hr31 hC31 hroom31 hi031 hsz31 hc31
              have KY31 := Aside0.mk hy31
              have KA31 := Aside0.mk hA31
              clear hy31 hA31
              replace q31 := eq_true q31
              go_wp2
              go_loopg [0, 14] kj16 (fun kq v0 v14 w' => ∃ (x0_4 : List Int) (x14_4 : Int) (x622000_4 : List Int) (x622001_4 : Int) (x622002_4 : Int) (u622000 : Value), v14 = .int .i64 x14_4 ∧ Aside0 (millhandref23_Cut.l1 kq x0_4 t612 x9_2 t622 x14_4 x612000_2 x622000_4 x622001_4 x622002_4 = some (r1, r2, r3)) ∧ Aside0 (kq ≤ kj16) ∧ Aside0 (Kd.V (Kd.int .u8) 5 w' w.heap.size (fun k_ => (P0_ k_ ∨ w.heap.size ≤ k_) ∧ some k_ ≠ (u612000 : Value).ownBlock ∧ some k_ ≠ (u622000 : Value).ownBlock ∧ k_ ≠ gb610 ∧ k_ ≠ gb611 ∧ k_ ≠ gb621) v0 x0_4) ∧ Aside0 (Kd.S k40 40 w' w.heap.size (fun k_ => (w.heap.size ≤ k_) ∧ some k_ ≠ (u622000 : Value).ownBlock ∧ k_ ≠ gb621) u612000 x612000_2) ∧ Aside0 (Kd.R (Kd.int .i64) 3 w' w.heap.size (fun k_ => (w.heap.size ≤ k_)) u622000 x622000_4) ∧ Aside0 (w'.heap[gb610]? = some (.cells #[(.slice none 0 0)] 25 (0, 0))) ∧ Aside0 (w'.heap[gb611]? = some (.cells #[u612000] 25 (0, 0))) ∧ Aside0 (w'.heap[gb621]? = some (.cells #[u622000, .int .i64 x622001_4, .int .i64 x622002_4] 40 (0, 0))) ∧ Aside0 (Below w.heap.size w w'))
              case atStart => exact ⟨(y625), (0), (([] : List Int)), (0), (0), (.slice none 0 0), (by first | rfl | (simp; done) | (simp [*]; done)), H', ⟨Nat.le_refl _⟩, ⟨by (with_reducible repeat (first | apply Kd.V_alloc | apply Kd.V_drewN | apply Kd.V_drew)); exact Kd.V_mono HO629.out (fun _ hk => ⟨hk.1, ⟨hk.2.1, ⟨(by simp [Value.ownBlock]), ⟨hk.2.2.1, ⟨hk.2.2.2.1, hk.2.2.2.2⟩⟩⟩⟩⟩)⟩, ⟨by (with_reducible repeat (first | apply Kd.S_alloc | apply Kd.S_drewN | apply Kd.S_drew)); exact Kd.S_mono HO_612000.out (fun _ hk => ⟨hk.1, ⟨(by simp [Value.ownBlock]), hk.2⟩⟩)⟩, ⟨by first | exact Kd.R_nil _ _ _ _ _ | exact Kd.N_nil _ _ _ _ _ | exact Kd.V_nil _ _ _ _ _ | exact Kd.Q_nil _ _ _ _ _ | exact Kd.S_nil _ _ _ _ _⟩, ⟨by (with_reducible repeat (first | refine blk_drewN ?_ _ | refine blk_drew ?_ | refine blk_alloc ?_ _)); exact BK610.out⟩, ⟨by (with_reducible repeat (first | refine blk_drewN ?_ _ | refine blk_drew ?_ | refine blk_alloc ?_ _)); exact BK611.out⟩, ⟨by (with_reducible repeat (first | refine blk_drewN ?_ _ | refine blk_drew ?_ | refine blk_alloc ?_ _)); exact BK621.out⟩, ⟨by repeat (first | (with_reducible first | exact HB.out | apply below_alloc | apply pw_below_drewN | apply below_drew1 | refine below_set ?_ GE610.out | refine below_set ?_ GE611.out | refine below_set ?_ GE621.out) | exact HB.out)⟩⟩
              case round =>
               clear H'
               try clear c1
               try clear q1
               try clear c2
               try clear p2
               try clear c3
               try clear q3
               try clear c4
               try clear p6
               try clear c7
               try clear c7b0
               try clear c7b1
               try clear c8
               try clear c9
               try clear c12
               try clear c12b0
               try clear c12b1
               try clear c13
               try clear c13b0
               try clear c13b1
               try clear c14
               try clear q14
               try clear c15
               try clear c15b0
               try clear c21
               try clear c21b0
               try clear c21b1
               try clear c22
               try clear c23
               try clear c24
               try clear c27
               try clear c29
               try clear c29b0
               try clear c29b1
               try clear c30
               try clear c30b0
               try clear c30b1
               try clear c31
               try clear q31
               try clear hcz10_0
               try clear hcz11_0
               try clear hcz25_0
               try clear hcz28_0
               try clear hfz10_0
               try clear hfz11_0
               try clear hfz25_0
               try clear hfz28_0
               try clear p2
               try clear p6
               try clear q014
               try clear q031
               try clear q1
               try clear q14
               try clear q31
               obtain ⟨x0_4, x14_4, x622000_4, x622001_4, x622002_4, u622000, rfl, HA, HK4, HO_0, HO_612000, HO_622000, BK610, BK611, BK621, HB⟩ := hrel
               cases gk with
               | zero => exact absurd HA.out (by simp [millhandref23_Cut.l1])
               | succ k4 =>
                have H := HA.out
                clear HA
                simp only [millhandref23_Cut.l1] at H
                by_cases c32 : x14_4 < (wrap64 ((wrap64 (t622)) + 2))
                ·
                 rw [if_pos c32] at H
                 have c32b0 : decide (x14_4 < (wrap64 ((wrap64 (t622)) + 2))) = true := decide_eq_true c32
                 clear c32
                 replace H := Option.bind_eq_some_iff.mp H
                 obtain ⟨⟨t633, t634, t635⟩, A330, H⟩ := H
                 replace H : (if t635 = 0 then (millhandref23_Cut.j4 k4 x0_4 t612 x9_2 t622 x14_4 t633 t634 (decide (t633 > 1048576)) x612000_2 x622000_4 x622001_4 x622002_4) else (millhandref23_Cut.j4 k4 x0_4 t612 x9_2 t622 x14_4 t633 t634 true x612000_2 x622000_4 x622001_4 x622002_4)) = some (r1, r2, r3) := H
                 have A33 := Aside0.mk A330
                 clear A330
                 have HC34 := Aside0.mk H
                 clear H
                 obtain ⟨Ao35, co35, eo35⟩ := Kd.V_slice HO_0.out
                 subst eo35
                 go_upto_region 18 with (first | ((with_reducible refine gate_callee (f := 48) rfl ?_); refine goesL_ (some 65) rfl rfl Try.func48 (by kernel_rfl) rfl #[.slice Ao35 x0_4.length co35] rfl (by (try simp only [List.map_toArray, List.map_cons, List.map_nil]); first | done | rfl | (simp only [List.length_drop, List.length_take]; rfl)) ?_; (with_reducible refine (millhandref01_Read.calls k4 _ _ x0_4 t633 t634 t635 _ ?side1 ?side2 A33.out).mono ?_); (case side1 => repeat (first | exact (Kd.V_reads' HO_0.out).2.2 | (with_reducible refine Kd.C_alloc ?_ _) | (with_reducible refine Kd.C_drewN ?_ _) | (with_reducible refine Kd.C_drew ?_))); (case side2 => exact (Kd.V_reads' HO_0.out).2.1); rintro e w36 ⟨rfl, hb⟩; refine ⟨_, rfl, ?_⟩; have n0_ := Aside0.mk (Kd.V_below (by (with_reducible repeat (first | apply Kd.V_alloc | apply Kd.V_drewN | apply Kd.V_drew)); exact HO_0.out) hb); have n1_ := Aside0.mk (Kd.S_below (by (with_reducible repeat (first | apply Kd.S_alloc | apply Kd.S_drewN | apply Kd.S_drew)); exact HO_612000.out) hb); have n2_ := Aside0.mk (Kd.R_below (by (with_reducible repeat (first | apply Kd.R_alloc | apply Kd.R_drewN | apply Kd.R_drew)); exact HO_622000.out) hb); have n3_ := Aside0.mk (blk_below (g := gb610) (o := .cells #[.slice none 0 0] 25 (0, 0)) (by (with_reducible repeat (first | refine blk_drewN ?_ _ | refine blk_drew ?_ | refine blk_alloc ?_ _)); exact BK610.out) hb); have n4_ := Aside0.mk (blk_below (g := gb611) (o := .cells #[u612000] 25 (0, 0)) (by (with_reducible repeat (first | refine blk_drewN ?_ _ | refine blk_drew ?_ | refine blk_alloc ?_ _)); exact BK611.out) hb); have n5_ := Aside0.mk (blk_below (g := gb621) (o := .cells #[u622000, .int .i64 x622001_4, .int .i64 x622002_4] 40 (0, 0)) (by (with_reducible repeat (first | refine blk_drewN ?_ _ | refine blk_drew ?_ | refine blk_alloc ?_ _)); exact BK621.out) hb); have n6_ := Aside0.mk (below_step (by repeat (first | (with_reducible first | exact HB.out | apply below_alloc | apply pw_below_drewN | apply below_drew1 | refine below_set ?_ GE610.out | refine below_set ?_ GE611.out | refine below_set ?_ GE621.out) | exact HB.out)) hb); clear HO_0; clear HO_612000; clear HO_622000; clear BK610; clear BK611; clear BK621; clear HB; have HO_0 := n0_; have HO_612000 := n1_; have HO_622000 := n2_; have BK610 := n3_; have BK611 := n4_; have BK621 := n5_; have HB := n6_; clear n0_ n1_ n2_ n3_ n4_ n5_ n6_; (try clear hb); (try clear hb2); (try clear hk); (try clear hi)))
                 (try simp only [Act.put, sa_, s0_, s1_])
                 go_cut [74] (fun v74 wc => ∃ (kq : Nat) (x74_33 : Bool), v74 = .bool x74_33 ∧ Aside0 (millhandref23_Cut.j4 kq x0_4 t612 x9_2 t622 x14_4 t633 t634 x74_33 x612000_2 x622000_4 x622001_4 x622002_4 = some (r1, r2, r3)) ∧ Aside0 (kq ≤ k4) ∧ Aside0 (Kd.V (Kd.int .u8) 5 wc w.heap.size (fun k_ => (P0_ k_ ∨ w.heap.size ≤ k_) ∧ some k_ ≠ (u612000 : Value).ownBlock ∧ some k_ ≠ (u622000 : Value).ownBlock ∧ k_ ≠ gb610 ∧ k_ ≠ gb611 ∧ k_ ≠ gb621) (.slice Ao35 x0_4.length co35) x0_4) ∧ Aside0 (Kd.S k40 40 wc w.heap.size (fun k_ => (w.heap.size ≤ k_) ∧ some k_ ≠ (u622000 : Value).ownBlock ∧ k_ ≠ gb621) u612000 x612000_2) ∧ Aside0 (Kd.R (Kd.int .i64) 3 wc w.heap.size (fun k_ => (w.heap.size ≤ k_)) u622000 x622000_4) ∧ Aside0 (wc.heap[gb610]? = some (.cells #[(.slice none 0 0)] 25 (0, 0))) ∧ Aside0 (wc.heap[gb611]? = some (.cells #[u612000] 25 (0, 0))) ∧ Aside0 (wc.heap[gb621]? = some (.cells #[u622000, .int .i64 x622001_4, .int .i64 x622002_4] 40 (0, 0))) ∧ Aside0 (Below w.heap.size w wc))
                 case first =>
                  have H := HC34.out
                  clear HC34
                  by_cases c37 : t635 = 0
                  ·
                   rw [if_pos c37] at H
                   have c37b0 : (t635 == 0) = true := beq_iff_eq.mpr c37
                   have c37b1 : (t635 != 0) = false := bne_eq_false_iff_eq.mpr c37
                   clear c37
                   (first | rw [c37b0] | (simp only [i64_w, i32_w]; rw [c37b0]) | skip)
                   have H' := Aside0.mk H
                   clear H
                   go_wp2
                   go_meet
                   case rel => exact ⟨_, (decide (t633 > 1048576)), (by first | rfl | (simp; done) | (simp [*]; done)), H', ⟨by have := HJ2.out; have := HK2.out; have := HJ16.out; have := HK4.out; first | omega | exact Nat.le_refl _⟩, ⟨by (with_reducible repeat (first | apply Kd.V_alloc | apply Kd.V_drewN | apply Kd.V_drew)); exact HO_0.out⟩, ⟨by (with_reducible repeat (first | apply Kd.S_alloc | apply Kd.S_drewN | apply Kd.S_drew)); exact HO_612000.out⟩, ⟨by (with_reducible repeat (first | apply Kd.R_alloc | apply Kd.R_drewN | apply Kd.R_drew)); exact HO_622000.out⟩, ⟨by (with_reducible repeat (first | refine blk_drewN ?_ _ | refine blk_drew ?_ | refine blk_alloc ?_ _)); exact BK610.out⟩, ⟨by (with_reducible repeat (first | refine blk_drewN ?_ _ | refine blk_drew ?_ | refine blk_alloc ?_ _)); exact BK611.out⟩, ⟨by (with_reducible repeat (first | refine blk_drewN ?_ _ | refine blk_drew ?_ | refine blk_alloc ?_ _)); exact BK621.out⟩, ⟨by repeat (first | (with_reducible first | exact HB.out | apply below_alloc | apply pw_below_drewN | apply below_drew1 | refine below_set ?_ GE610.out | refine below_set ?_ GE611.out | refine below_set ?_ GE621.out) | exact HB.out)⟩⟩
                  ·
                   rw [if_neg c37] at H
                   have c37b0 : (t635 == 0) = false := beq_eq_false_iff_ne.mpr c37
                   have c37b1 : (t635 != 0) = true := bne_iff_ne.mpr c37
                   (first | rw [c37b0] | (simp only [i64_w, i32_w]; rw [c37b0]) | skip)
                   have H' := Aside0.mk H
                   clear H
                   go_wp2
                   go_meet
                   case rel => exact ⟨_, (true), (by first | rfl | (simp; done) | (simp [*]; done)), H', ⟨by have := HJ2.out; have := HK2.out; have := HJ16.out; have := HK4.out; first | omega | exact Nat.le_refl _⟩, ⟨by (with_reducible repeat (first | apply Kd.V_alloc | apply Kd.V_drewN | apply Kd.V_drew)); exact HO_0.out⟩, ⟨by (with_reducible repeat (first | apply Kd.S_alloc | apply Kd.S_drewN | apply Kd.S_drew)); exact HO_612000.out⟩, ⟨by (with_reducible repeat (first | apply Kd.R_alloc | apply Kd.R_drewN | apply Kd.R_drew)); exact HO_622000.out⟩, ⟨by (with_reducible repeat (first | refine blk_drewN ?_ _ | refine blk_drew ?_ | refine blk_alloc ?_ _)); exact BK610.out⟩, ⟨by (with_reducible repeat (first | refine blk_drewN ?_ _ | refine blk_drew ?_ | refine blk_alloc ?_ _)); exact BK611.out⟩, ⟨by (with_reducible repeat (first | refine blk_drewN ?_ _ | refine blk_drew ?_ | refine blk_alloc ?_ _)); exact BK621.out⟩, ⟨by repeat (first | (with_reducible first | exact HB.out | apply below_alloc | apply pw_below_drewN | apply below_drew1 | refine below_set ?_ GE610.out | refine below_set ?_ GE611.out | refine below_set ?_ GE621.out) | exact HB.out)⟩⟩
                 case rest =>
                  clear HC34
                  try clear c1
                  try clear q1
                  try clear c2
                  try clear p2
                  try clear c3
                  try clear q3
                  try clear c4
                  try clear p6
                  try clear c7
                  try clear c7b0
                  try clear c7b1
                  try clear c8
                  try clear c9
                  try clear c12
                  try clear c12b0
                  try clear c12b1
                  try clear c13
                  try clear c13b0
                  try clear c13b1
                  try clear c14
                  try clear q14
                  try clear c15
                  try clear c15b0
                  try clear c21
                  try clear c21b0
                  try clear c21b1
                  try clear c22
                  try clear c23
                  try clear c24
                  try clear c27
                  try clear c29
                  try clear c29b0
                  try clear c29b1
                  try clear c30
                  try clear c30b0
                  try clear c30b1
                  try clear c31
                  try clear q31
                  try clear c32
                  try clear c32b0
                  try clear c33
                  try clear c37
                  try clear c37b0
                  try clear c37b1
                  try clear hcz10_0
                  try clear hcz11_0
                  try clear hcz25_0
                  try clear hcz28_0
                  try clear hfz10_0
                  try clear hfz11_0
                  try clear hfz25_0
                  try clear hfz28_0
                  try clear p2
                  try clear p6
                  try clear q014
                  try clear q031
                  try clear q1
                  try clear q14
                  try clear q3
                  try clear q31
                  obtain ⟨kq, x74_33, rfl, HA, HJ33, HO_0, HO_612000, HO_622000, BK610, BK611, BK621, HB⟩ := hcut
                  cases kq with
                  | zero => exact absurd HA.out (by simp [millhandref23_Cut.j4])
                  | succ kj33 =>
                   have H := HA.out
                   clear HA
                   simp only [millhandref23_Cut.j4] at H
                   by_cases c38 : x74_33 = true
                   ·
                    subst c38
                    have H1 : (some (x612000_2, ([] : List Int), false)) = some (r1, r2, r3) := by rw [if_pos rfl] at H; exact H
                    clear H
                    have H := H1
                    clear H1
                    simp only [Option.some.injEq, Prod.mk.injEq] at H
                    obtain ⟨rfl, rfl, rfl⟩ := H
                    have hnb39 := NB611_610.out
                    have hnc39 := NB610_611.out
                    have hnb40 := NB611_621.out
                    have hnc40 := NB621_611.out
                    have hcz41_0 : wc.cell? ⟨gb611, 0, none⟩ = some (u612000) := (blk_cell BK611.out 0).trans rfl
                    have hfz41_0 := blk_frozen BK611.out 0
                    obtain ⟨Ao42, co42, eo42⟩ := Kd.S_slice HO_612000.out
                    subst eo42
                    have hnb43 := NB610_621.out
                    have hnc43 := NB621_610.out
                    have hcz44_0 : wc.cell? ⟨gb610, 0, none⟩ = some (.slice none 0 0) := (blk_cell BK610.out 0).trans rfl
                    have hfz44_0 := blk_frozen BK610.out 0
                    go_wp2
                    refine bodyPost_ret (results_ctt rfl _ _ gb610 25 #[.slice Ao42 x612000_2.length co42] (0, 0) _ rfl (by (with_reducible repeat (first | refine blk_drewN ?_ _ | refine blk_drew ?_ | refine blk_alloc ?_ _)); refine blk_put (cs := #[.slice none 0 0]) ?_ 0 _ rfl; (with_reducible repeat (first | refine blk_drewN ?_ _ | refine blk_drew ?_ | refine blk_alloc ?_ _)); exact BK610.out) Try.underlying25 rfl (by kernel_rfl)) rfl ?_
                    exact ⟨_, _, by first | rfl | (simp [errW_none, errW_some] <;> rfl) | (simp [*, errW_none, errW_some] <;> rfl) | exact ret_ie _ | (simp [*, errW_none, errW_some, bne]; done), by (with_reducible repeat (first | apply Kd.S_alloc | apply Kd.S_drewN | apply Kd.S_drew)); exact Kd.S_mono (Kd.S_far (p := ⟨gb610, 0, none⟩) (Kd.S_types HO_612000.out BK610.out (by decide)) (fun _ hk => hk.2) (.slice Ao42 x612000_2.length co42)) (fun _ hk => hk.1.1), Kd.V_nil _ _ _ _ _, by repeat (first | (with_reducible first | exact HB.out | apply below_alloc | apply pw_below_drewN | apply below_drew1 | refine below_set ?_ GE610.out | refine below_set ?_ GE611.out | refine below_set ?_ GE621.out) | exact HB.out)⟩
                   ·
                    replace c38 := Bool.eq_false_iff.mpr c38
                    subst c38
                    have H1 : (if 0 ≤ t634 then (if t634 ≤ (x0_4.length : Int) then ((some (x0_4.drop (t634 : Int).toNat : List Int)).bind fun y636 => (if x14_4 < (wrap64 (t622)) then (if x622000_4.length < 17592186044416 then (millhandref23_Cut.l1 kj33 y636 t612 x9_2 t622 (wrap64 (x14_4 + 1)) x612000_2 (x622000_4 ++ [wrap64 (t633)]) x622001_4 x622002_4) else (none)) else (if x14_4 = (wrap64 (t622)) then (millhandref23_Cut.l1 kj33 y636 t612 x9_2 t622 (wrap64 (x14_4 + 1)) x612000_2 x622000_4 (wrap64 (t633)) x622002_4) else (millhandref23_Cut.l1 kj33 y636 t612 x9_2 t622 (wrap64 (x14_4 + 1)) x612000_2 x622000_4 x622001_4 (wrap64 (t633)))))) else (none)) else (none)) = some (r1, r2, r3) := by rw [if_neg (show ¬ (false = true) by decide)] at H; exact H
                    clear H
                    have H := H1
                    clear H1
                    by_cases c45 : 0 ≤ t634
                    ·
                     rw [if_pos c45] at H
                     have c45b0 := eq_true c45
                     have c45b1 : decide (0 ≤ t634) = true := decide_eq_true c45
                     clear c45
                     by_cases c46 : t634 ≤ (x0_4.length : Int)
                     ·
                      rw [if_pos c46] at H
                      have c46b0 := eq_true c46
                      have c46b1 : decide (t634 ≤ (x0_4.length : Int)) = true := decide_eq_true c46
                      clear c46
                      obtain ⟨y636, hy636⟩ : ∃ y_ : List Int, y_ = (x0_4.drop (t634 : Int).toNat) := ⟨_, rfl⟩
                      replace H : (if x14_4 < (wrap64 (t622)) then (if x622000_4.length < 17592186044416 then (millhandref23_Cut.l1 kj33 y636 t612 x9_2 t622 (wrap64 (x14_4 + 1)) x612000_2 (x622000_4 ++ [wrap64 (t633)]) x622001_4 x622002_4) else (none)) else (if x14_4 = (wrap64 (t622)) then (millhandref23_Cut.l1 kj33 y636 t612 x9_2 t622 (wrap64 (x14_4 + 1)) x612000_2 x622000_4 (wrap64 (t633)) x622002_4) else (millhandref23_Cut.l1 kj33 y636 t612 x9_2 t622 (wrap64 (x14_4 + 1)) x612000_2 x622000_4 x622001_4 (wrap64 (t633))))) = some (r1, r2, r3) := by first | (rw [hy636]; with_reducible exact H) | (have H2_ := (Option.bind_some _ _).symm.trans H; rw [hy636]; with_reducible exact H2_) | (have H2_ := (Option.bind_some _ _).symm.trans H; with_reducible exact H2_) | with_reducible exact H | (rw [hy636]; exact H) | exact H
                      have Ny636 := Aside0.mk hy636
                      clear hy636
                      by_cases c47 : x14_4 < (wrap64 (t622))
                      ·
                       rw [if_pos c47] at H
                       have c47b0 : decide (x14_4 < (wrap64 (t622))) = true := decide_eq_true c47
                       clear c47
                       by_cases c48 : x622000_4.length < 17592186044416
                       ·
                        rw [if_pos c48] at H
                        have LMc48 := Aside0.mk c48
                        clear c48
                        obtain ⟨y641, hy641⟩ : ∃ y_ : List Int, y_ = (x622000_4 ++ [wrap64 (t633)]) := ⟨_, rfl⟩
                        replace H : (millhandref23_Cut.l1 kj33 y636 t612 x9_2 t622 (wrap64 (x14_4 + 1)) x612000_2 y641 x622001_4 x622002_4) = some (r1, r2, r3) := by first | (rw [hy641]; with_reducible exact H) | (have H2_ := (Option.bind_some _ _).symm.trans H; rw [hy641]; with_reducible exact H2_) | (have H2_ := (Option.bind_some _ _).symm.trans H; with_reducible exact H2_) | with_reducible exact H | (rw [hy641]; exact H) | exact H
                        have Ny641 := Aside0.mk hy641
                        clear hy641
                        have H' := Aside0.mk H
                        clear H
                        have q49 : (t634 : Int) ≤ ((x0_4.length : Int) : Int) := of_decide_eq_true (by first | (with_reducible assumption) | assumption)
                        obtain ⟨i049, hi049, _, hsz49, _⟩ := info_parts info5
                        have hroom49 : x0_4.length ≤ co35 := (Kd.V_reads' HO_0.out).2.1
                        have hC49 : Kd.F (Kd.int .u8) _ _ Ao35 x0_4.length x0_4 := (Kd.V_at (base := w.heap.size) HO_0.out).2.2
                        have q049 : (0 : Int) ≤ (t634 : Int) := of_decide_eq_true (by first | (with_reducible assumption) | assumption)
                        have hcut49 := cut_from (P := Try.prog) 22 5 .i64 Try.underlying22 hi049 1 hsz49 Ao35 x0_4.length co35 t634 q049 q49
                        have hr49 := Kd.F_cut (m := (t634 : Int).toNat) (c := co35) hC49 (by omega) hroom49
                        obtain ⟨A49, hA49⟩ : ∃ A1, A1 = (if co35 = (t634 : Int).toNat then Ao35 else (Ao35 : Option Addr).map (·.add ((t634 : Int).toNat * 1))) := ⟨_, rfl⟩
                        obtain ⟨c49, hc49⟩ : ∃ c1, c1 = co35 - (t634 : Int).toNat := ⟨_, rfl⟩
                        have hy49 : y636.length = x0_4.length - (t634 : Int).toNat := (by rw [Ny636.out, List.length_drop] <;> omega)
                        rw [show (x0_4).drop (t634 : Int).toNat = y636 from Ny636.out.symm] at hr49
                        replace hr49 : Kd.F (Kd.int .u8) _ _ A49 y636.length y636 := (by rw [hA49]; exact hr49)
                        rw [← hy49, ← hA49, ← hc49] at hcut49
                        have HO640 := Aside0.mk (show Kd.V (Kd.int .u8) 5 _ w.heap.size _ (.slice A49 y636.length c49) y636 from Kd.V_mk (by rw [hy49, hc49]; exact Nat.sub_le_sub_right hroom49 _) hr49)
                        have HC640 := Aside0.mk (show y636.length ≤ c49 from by rw [hy49, hc49]; exact Nat.sub_le_sub_right hroom49 _)
                        clear hr49 hC49 hroom49 hi049 hsz49 hc49
                        have KY49 := Aside0.mk hy49
                        have KA49 := Aside0.mk hA49
                        clear hy49 hA49
                        replace q49 := eq_true q49
                        have hnb50 := NB621_610.out
                        have hnc50 := NB610_621.out
                        have hnb51 := NB621_611.out
                        have hnc51 := NB611_621.out
                        have hcz52_0 : wc.cell? ⟨gb621, 0, none⟩ = some (u622000) := (blk_cell BK621.out 0).trans rfl
                        have hcz52_1 : wc.cell? ⟨gb621, 1, none⟩ = some (.int .i64 x622001_4) := (blk_cell BK621.out 1).trans rfl
                        have hcz52_2 : wc.cell? ⟨gb621, 2, none⟩ = some (.int .i64 x622002_4) := (blk_cell BK621.out 2).trans rfl
                        have hfz52_0 := blk_frozen BK621.out 0
                        have hfz52_1 := blk_frozen BK621.out 1
                        have hfz52_2 := blk_frozen BK621.out 2
                        go_wp2_with (first | ((with_reducible refine gate_builtin (b := .append) (xs := #[.tmp 84, .tmp 87]) rfl ?_); at_builtin; refine Kd.R_append (Kd.int .i64) (w0 := w) w.heap.size rfl (.tmp 84) (.tmp 87) 35 3 (.int .i64 0) 8 rfl Try.underlying35 info3 rfl (by decide) (by omega) u622000 x622000_4 (wrap64 (t633)) [.int .i64 (wrap64 (t633))] (fun k_ => (w.heap.size ≤ k_)) (fun _ => False) rfl rfl ?aP (fun _ hk => hk.elim) ?aF ?aO ?aB ?aS ?aL ?_; (case aP => exact rfl); (case aB => exact (by repeat (first | (with_reducible first | exact HB.out | apply below_alloc | apply pw_below_drewN | apply below_drew1 | refine below_set ?_ GE610.out | refine below_set ?_ GE611.out | refine below_set ?_ GE621.out) | exact HB.out))); (case aF => exact (fun k_ hk => (Nat.le_trans (below_size (by repeat (first | (with_reducible first | exact HB.out | apply below_alloc | apply pw_below_drewN | apply below_drew1 | refine below_set ?_ GE610.out | refine below_set ?_ GE611.out | refine below_set ?_ GE621.out) | exact HB.out))) hk))); (case aO => exact (by (with_reducible repeat (first | apply Kd.R_alloc | apply Kd.R_drewN | apply Kd.R_drew)); exact HO_622000.out)); (case aS => exact (below_size (by repeat (first | (with_reducible first | exact HB.out | apply below_alloc | apply pw_below_drewN | apply below_drew1 | refine below_set ?_ GE610.out | refine below_set ?_ GE611.out | refine below_set ?_ GE621.out) | exact HB.out)))); (case aL => have := LMc48.out; omega); intro v642 w53 ho hb hg hat; rw [← Ny641.out] at ho; have n0_ := Aside0.mk (Kd.V_afterv (ok := (fun k_ => (P0_ k_ ∨ w.heap.size ≤ k_) ∧ some k_ ≠ (u612000 : Value).ownBlock ∧ k_ ≠ gb610 ∧ k_ ≠ gb611 ∧ k_ ≠ gb621)) (by (with_reducible repeat (first | apply Kd.V_alloc | apply Kd.V_drewN | apply Kd.V_drew)); exact Kd.V_mono HO_0.out (fun _ hk => ⟨⟨hk.1, ⟨hk.2.1, ⟨hk.2.2.2.1, ⟨hk.2.2.2.2.1, hk.2.2.2.2.2⟩⟩⟩⟩, hk.2.2.1⟩)) hg hat); have n1_ := Aside0.mk (Kd.S_after (ok := (fun k_ => (w.heap.size ≤ k_) ∧ k_ ≠ gb621)) (by (with_reducible repeat (first | apply Kd.S_alloc | apply Kd.S_drewN | apply Kd.S_drew)); exact Kd.S_mono HO_612000.out (fun _ hk => ⟨⟨hk.1, hk.2.2⟩, hk.2.1⟩)) hg hat); have n2_ := Aside0.mk (blk_grown (g := gb610) (o := .cells #[.slice none 0 0] 25 (0, 0)) (by (with_reducible repeat (first | refine blk_drewN ?_ _ | refine blk_drew ?_ | refine blk_alloc ?_ _)); exact BK610.out) hg (Kd.R_ne HO_622000.out BK610.out (by decide))); have n3_ := Aside0.mk (blk_grown (g := gb611) (o := .cells #[u612000] 25 (0, 0)) (by (with_reducible repeat (first | refine blk_drewN ?_ _ | refine blk_drew ?_ | refine blk_alloc ?_ _)); exact BK611.out) hg (Kd.R_ne HO_622000.out BK611.out (by decide))); have n4_ := Aside0.mk (blk_grown (g := gb621) (o := .cells #[u622000, .int .i64 x622001_4, .int .i64 x622002_4] 40 (0, 0)) (by (with_reducible repeat (first | refine blk_drewN ?_ _ | refine blk_drew ?_ | refine blk_alloc ?_ _)); exact BK621.out) hg (Kd.R_ne HO_622000.out BK621.out (by decide))); have n5_ := Aside0.mk (Kd.V_afterv (ok := (fun k_ => (P0_ k_ ∨ w.heap.size ≤ k_) ∧ some k_ ≠ (u612000 : Value).ownBlock ∧ k_ ≠ gb610 ∧ k_ ≠ gb611 ∧ k_ ≠ gb621)) (by (with_reducible repeat (first | apply Kd.V_alloc | apply Kd.V_drewN | apply Kd.V_drew)); exact Kd.V_mono HO640.out (fun _ hk => ⟨⟨hk.1, ⟨hk.2.1, ⟨hk.2.2.2.1, ⟨hk.2.2.2.2.1, hk.2.2.2.2.2⟩⟩⟩⟩, hk.2.2.1⟩)) hg hat); have n6_ := Aside0.mk (hb); have n7_ := Aside0.mk (ho); clear HO_0; clear HO_612000; clear BK610; clear BK611; clear BK621; clear HO640; clear HB; clear HO_622000; have HO_0 := n0_; have HO_612000 := n1_; have BK610 := n2_; have BK611 := n3_; have BK621 := n4_; have HO640 := n5_; have HB := n6_; have HO643 := n7_; clear n0_ n1_ n2_ n3_ n4_ n5_ n6_ n7_; clear ho hb hg hat; obtain ⟨Ao54, co54, eo54⟩ := Kd.R_slice HO643.out; subst eo54; have hcz55_0 : w53.cell? ⟨gb621, 0, none⟩ = some (u622000) := (blk_cell BK621.out 0).trans rfl; have hcz55_1 : w53.cell? ⟨gb621, 1, none⟩ = some (.int .i64 x622001_4) := (blk_cell BK621.out 1).trans rfl; have hcz55_2 : w53.cell? ⟨gb621, 2, none⟩ = some (.int .i64 x622002_4) := (blk_cell BK621.out 2).trans rfl; have hfz55_0 := blk_frozen BK621.out 0; have hfz55_1 := blk_frozen BK621.out 1; have hfz55_2 := blk_frozen BK621.out 2))
                        go_roundg kj33
                        case measure => have := HJ2.out; have := HK2.out; have := HJ16.out; have := HK4.out; have := HJ33.out; omega
                        case rel => exact ⟨(y636), (wrap64 (x14_4 + 1)), (y641), (x622001_4), (x622002_4), (.slice Ao54 y641.length co54), (by first | rfl | (simp; done) | (simp [*]; done)), H', ⟨by have := HJ2.out; have := HK2.out; have := HJ16.out; have := HK4.out; have := HJ33.out; omega⟩, ⟨by (with_reducible repeat (first | apply Kd.V_alloc | apply Kd.V_drewN | apply Kd.V_drew)); exact Kd.V_mono (Kd.V_far (p := ⟨gb621, 0, none⟩) (Kd.V_mono HO640.out (fun k_ hk => (⟨hk, hk.1.2.2.2.2⟩ : _ ∧ k_ ≠ gb621))) (fun _ hk => hk.2) (.slice Ao54 y641.length co54)) (fun _ hk => ⟨hk.1.1.1, ⟨hk.1.1.2.1, ⟨hk.1.2, ⟨hk.1.1.2.2.1, ⟨hk.1.1.2.2.2.1, hk.1.1.2.2.2.2⟩⟩⟩⟩⟩)⟩, ⟨by (with_reducible repeat (first | apply Kd.S_alloc | apply Kd.S_drewN | apply Kd.S_drew)); exact Kd.S_mono (Kd.S_far (p := ⟨gb621, 0, none⟩) (Kd.S_mono HO_612000.out (fun k_ hk => (⟨hk, hk.1.2⟩ : _ ∧ k_ ≠ gb621))) (fun _ hk => hk.2) (.slice Ao54 y641.length co54)) (fun _ hk => ⟨hk.1.1.1, ⟨hk.1.2, hk.1.1.2⟩⟩)⟩, ⟨by (with_reducible repeat (first | apply Kd.R_alloc | apply Kd.R_drewN | apply Kd.R_drew)); exact Kd.R_mono (Kd.R_far (p := ⟨gb621, 0, none⟩) (Kd.R_types HO643.out BK621.out (by decide)) (fun _ hk => hk.2) (.slice Ao54 y641.length co54)) (fun _ hk => hk.1)⟩, ⟨by (with_reducible repeat (first | refine blk_drewN ?_ _ | refine blk_drew ?_ | refine blk_alloc ?_ _)); refine blk_far ?_ NB610_621.out _; (with_reducible repeat (first | refine blk_drewN ?_ _ | refine blk_drew ?_ | refine blk_alloc ?_ _)); exact BK610.out⟩, ⟨by (with_reducible repeat (first | refine blk_drewN ?_ _ | refine blk_drew ?_ | refine blk_alloc ?_ _)); refine blk_far ?_ NB611_621.out _; (with_reducible repeat (first | refine blk_drewN ?_ _ | refine blk_drew ?_ | refine blk_alloc ?_ _)); exact BK611.out⟩, ⟨by (with_reducible repeat (first | refine blk_drewN ?_ _ | refine blk_drew ?_ | refine blk_alloc ?_ _)); refine blk_put (cs := #[u622000, .int .i64 x622001_4, .int .i64 x622002_4]) ?_ 0 _ rfl; (with_reducible repeat (first | refine blk_drewN ?_ _ | refine blk_drew ?_ | refine blk_alloc ?_ _)); exact BK621.out⟩, ⟨by repeat (first | (with_reducible first | exact HB.out | apply below_alloc | apply pw_below_drewN | apply below_drew1 | refine below_set ?_ GE610.out | refine below_set ?_ GE611.out | refine below_set ?_ GE621.out) | exact HB.out)⟩⟩
                       ·
                        rw [if_neg c48] at H
                        exact absurd H (by simp)
                      ·
                       rw [if_neg c47] at H
                       have c47b0 : decide (x14_4 < (wrap64 (t622))) = false := decide_eq_false c47
                       clear c47
                       by_cases c56 : x14_4 = (wrap64 (t622))
                       ·
                        rw [if_pos c56] at H
                        have c56b0 : (x14_4 == (wrap64 (t622))) = true := beq_iff_eq.mpr c56
                        have c56b1 : (x14_4 != (wrap64 (t622))) = false := bne_eq_false_iff_eq.mpr c56
                        clear c56
                        have H' := Aside0.mk H
                        clear H
                        have q57 : (t634 : Int) ≤ ((x0_4.length : Int) : Int) := of_decide_eq_true (by first | (with_reducible assumption) | assumption)
                        obtain ⟨i057, hi057, _, hsz57, _⟩ := info_parts info5
                        have hroom57 : x0_4.length ≤ co35 := (Kd.V_reads' HO_0.out).2.1
                        have hC57 : Kd.F (Kd.int .u8) _ _ Ao35 x0_4.length x0_4 := (Kd.V_at (base := w.heap.size) HO_0.out).2.2
                        have q057 : (0 : Int) ≤ (t634 : Int) := of_decide_eq_true (by first | (with_reducible assumption) | assumption)
                        have hcut57 := cut_from (P := Try.prog) 22 5 .i64 Try.underlying22 hi057 1 hsz57 Ao35 x0_4.length co35 t634 q057 q57
                        have hr57 := Kd.F_cut (m := (t634 : Int).toNat) (c := co35) hC57 (by omega) hroom57
                        obtain ⟨A57, hA57⟩ : ∃ A1, A1 = (if co35 = (t634 : Int).toNat then Ao35 else (Ao35 : Option Addr).map (·.add ((t634 : Int).toNat * 1))) := ⟨_, rfl⟩
                        obtain ⟨c57, hc57⟩ : ∃ c1, c1 = co35 - (t634 : Int).toNat := ⟨_, rfl⟩
                        have hy57 : y636.length = x0_4.length - (t634 : Int).toNat := (by rw [Ny636.out, List.length_drop] <;> omega)
                        rw [show (x0_4).drop (t634 : Int).toNat = y636 from Ny636.out.symm] at hr57
                        replace hr57 : Kd.F (Kd.int .u8) _ _ A57 y636.length y636 := (by rw [hA57]; exact hr57)
                        rw [← hy57, ← hA57, ← hc57] at hcut57
                        have HO640 := Aside0.mk (show Kd.V (Kd.int .u8) 5 _ w.heap.size _ (.slice A57 y636.length c57) y636 from Kd.V_mk (by rw [hy57, hc57]; exact Nat.sub_le_sub_right hroom57 _) hr57)
                        have HC640 := Aside0.mk (show y636.length ≤ c57 from by rw [hy57, hc57]; exact Nat.sub_le_sub_right hroom57 _)
                        clear hr57 hC57 hroom57 hi057 hsz57 hc57
                        have KY57 := Aside0.mk hy57
                        have KA57 := Aside0.mk hA57
                        clear hy57 hA57
                        replace q57 := eq_true q57
                        have hnb58 := NB621_610.out
                        have hnc58 := NB610_621.out
                        have hnb59 := NB621_611.out
                        have hnc59 := NB611_621.out
                        have hcz60_0 : wc.cell? ⟨gb621, 0, none⟩ = some (u622000) := (blk_cell BK621.out 0).trans rfl
                        have hcz60_1 : wc.cell? ⟨gb621, 1, none⟩ = some (.int .i64 x622001_4) := (blk_cell BK621.out 1).trans rfl
                        have hcz60_2 : wc.cell? ⟨gb621, 2, none⟩ = some (.int .i64 x622002_4) := (blk_cell BK621.out 2).trans rfl
                        have hfz60_0 := blk_frozen BK621.out 0
                        have hfz60_1 := blk_frozen BK621.out 1
                        have hfz60_2 := blk_frozen BK621.out 2
                        go_wp2
                        go_roundg kj33
                        case measure => have := HJ2.out; have := HK2.out; have := HJ16.out; have := HK4.out; have := HJ33.out; omega
                        case rel => exact ⟨(y636), (wrap64 (x14_4 + 1)), (x622000_4), (wrap64 (t633)), (x622002_4), (u622000), (by first | rfl | (simp; done) | (simp [*]; done)), H', ⟨by have := HJ2.out; have := HK2.out; have := HJ16.out; have := HK4.out; have := HJ33.out; omega⟩, ⟨by (with_reducible repeat (first | apply Kd.V_alloc | apply Kd.V_drewN | apply Kd.V_drew)); exact Kd.V_mono (Kd.V_far (p := ⟨gb621, 1, none⟩) (Kd.V_mono HO640.out (fun k_ hk => (⟨hk, hk.2.2.2.2.2⟩ : _ ∧ k_ ≠ gb621))) (fun _ hk => hk.2) (.int .i64 (wrap64 (t633)))) (fun _ hk => ⟨hk.1.1, ⟨hk.1.2.1, ⟨hk.1.2.2.1, ⟨hk.1.2.2.2.1, ⟨hk.1.2.2.2.2.1, hk.1.2.2.2.2.2⟩⟩⟩⟩⟩)⟩, ⟨by (with_reducible repeat (first | apply Kd.S_alloc | apply Kd.S_drewN | apply Kd.S_drew)); exact Kd.S_mono (Kd.S_far (p := ⟨gb621, 1, none⟩) (Kd.S_mono HO_612000.out (fun k_ hk => (⟨hk, hk.2.2⟩ : _ ∧ k_ ≠ gb621))) (fun _ hk => hk.2) (.int .i64 (wrap64 (t633)))) (fun _ hk => ⟨hk.1.1, ⟨hk.1.2.1, hk.1.2.2⟩⟩)⟩, ⟨by (with_reducible repeat (first | apply Kd.R_alloc | apply Kd.R_drewN | apply Kd.R_drew)); exact Kd.R_mono (Kd.R_far (p := ⟨gb621, 1, none⟩) (Kd.R_types HO_622000.out BK621.out (by decide)) (fun _ hk => hk.2) (.int .i64 (wrap64 (t633)))) (fun _ hk => hk.1)⟩, ⟨by (with_reducible repeat (first | refine blk_drewN ?_ _ | refine blk_drew ?_ | refine blk_alloc ?_ _)); refine blk_far ?_ NB610_621.out _; (with_reducible repeat (first | refine blk_drewN ?_ _ | refine blk_drew ?_ | refine blk_alloc ?_ _)); exact BK610.out⟩, ⟨by (with_reducible repeat (first | refine blk_drewN ?_ _ | refine blk_drew ?_ | refine blk_alloc ?_ _)); refine blk_far ?_ NB611_621.out _; (with_reducible repeat (first | refine blk_drewN ?_ _ | refine blk_drew ?_ | refine blk_alloc ?_ _)); exact BK611.out⟩, ⟨by (with_reducible repeat (first | refine blk_drewN ?_ _ | refine blk_drew ?_ | refine blk_alloc ?_ _)); refine blk_put (cs := #[u622000, .int .i64 x622001_4, .int .i64 x622002_4]) ?_ 1 _ rfl; (with_reducible repeat (first | refine blk_drewN ?_ _ | refine blk_drew ?_ | refine blk_alloc ?_ _)); exact BK621.out⟩, ⟨by repeat (first | (with_reducible first | exact HB.out | apply below_alloc | apply pw_below_drewN | apply below_drew1 | refine below_set ?_ GE610.out | refine below_set ?_ GE611.out | refine below_set ?_ GE621.out) | exact HB.out)⟩⟩
                       ·
                        rw [if_neg c56] at H
                        have c56b0 : (x14_4 == (wrap64 (t622))) = false := beq_eq_false_iff_ne.mpr c56
                        have c56b1 : (x14_4 != (wrap64 (t622))) = true := bne_iff_ne.mpr c56
                        have H' := Aside0.mk H
                        clear H
                        have q61 : (t634 : Int) ≤ ((x0_4.length : Int) : Int) := of_decide_eq_true (by first | (with_reducible assumption) | assumption)
                        obtain ⟨i061, hi061, _, hsz61, _⟩ := info_parts info5
                        have hroom61 : x0_4.length ≤ co35 := (Kd.V_reads' HO_0.out).2.1
                        have hC61 : Kd.F (Kd.int .u8) _ _ Ao35 x0_4.length x0_4 := (Kd.V_at (base := w.heap.size) HO_0.out).2.2
                        have q061 : (0 : Int) ≤ (t634 : Int) := of_decide_eq_true (by first | (with_reducible assumption) | assumption)
                        have hcut61 := cut_from (P := Try.prog) 22 5 .i64 Try.underlying22 hi061 1 hsz61 Ao35 x0_4.length co35 t634 q061 q61
                        have hr61 := Kd.F_cut (m := (t634 : Int).toNat) (c := co35) hC61 (by omega) hroom61
                        obtain ⟨A61, hA61⟩ : ∃ A1, A1 = (if co35 = (t634 : Int).toNat then Ao35 else (Ao35 : Option Addr).map (·.add ((t634 : Int).toNat * 1))) := ⟨_, rfl⟩
                        obtain ⟨c61, hc61⟩ : ∃ c1, c1 = co35 - (t634 : Int).toNat := ⟨_, rfl⟩
                        have hy61 : y636.length = x0_4.length - (t634 : Int).toNat := (by rw [Ny636.out, List.length_drop] <;> omega)
                        rw [show (x0_4).drop (t634 : Int).toNat = y636 from Ny636.out.symm] at hr61
                        replace hr61 : Kd.F (Kd.int .u8) _ _ A61 y636.length y636 := (by rw [hA61]; exact hr61)
                        rw [← hy61, ← hA61, ← hc61] at hcut61
                        have HO640 := Aside0.mk (show Kd.V (Kd.int .u8) 5 _ w.heap.size _ (.slice A61 y636.length c61) y636 from Kd.V_mk (by rw [hy61, hc61]; exact Nat.sub_le_sub_right hroom61 _) hr61)
                        have HC640 := Aside0.mk (show y636.length ≤ c61 from by rw [hy61, hc61]; exact Nat.sub_le_sub_right hroom61 _)
                        clear hr61 hC61 hroom61 hi061 hsz61 hc61
                        have KY61 := Aside0.mk hy61
                        have KA61 := Aside0.mk hA61
                        clear hy61 hA61
                        replace q61 := eq_true q61
                        have hnb62 := NB621_610.out
                        have hnc62 := NB610_621.out
                        have hnb63 := NB621_611.out
                        have hnc63 := NB611_621.out
                        have hcz64_0 : wc.cell? ⟨gb621, 0, none⟩ = some (u622000) := (blk_cell BK621.out 0).trans rfl
                        have hcz64_1 : wc.cell? ⟨gb621, 1, none⟩ = some (.int .i64 x622001_4) := (blk_cell BK621.out 1).trans rfl
                        have hcz64_2 : wc.cell? ⟨gb621, 2, none⟩ = some (.int .i64 x622002_4) := (blk_cell BK621.out 2).trans rfl
                        have hfz64_0 := blk_frozen BK621.out 0
                        have hfz64_1 := blk_frozen BK621.out 1
                        have hfz64_2 := blk_frozen BK621.out 2
                        go_wp2
                        go_roundg kj33
                        case measure => have := HJ2.out; have := HK2.out; have := HJ16.out; have := HK4.out; have := HJ33.out; omega
                        case rel => exact ⟨(y636), (wrap64 (x14_4 + 1)), (x622000_4), (x622001_4), (wrap64 (t633)), (u622000), (by first | rfl | (simp; done) | (simp [*]; done)), H', ⟨by have := HJ2.out; have := HK2.out; have := HJ16.out; have := HK4.out; have := HJ33.out; omega⟩, ⟨by (with_reducible repeat (first | apply Kd.V_alloc | apply Kd.V_drewN | apply Kd.V_drew)); exact Kd.V_mono (Kd.V_far (p := ⟨gb621, 2, none⟩) (Kd.V_mono HO640.out (fun k_ hk => (⟨hk, hk.2.2.2.2.2⟩ : _ ∧ k_ ≠ gb621))) (fun _ hk => hk.2) (.int .i64 (wrap64 (t633)))) (fun _ hk => ⟨hk.1.1, ⟨hk.1.2.1, ⟨hk.1.2.2.1, ⟨hk.1.2.2.2.1, ⟨hk.1.2.2.2.2.1, hk.1.2.2.2.2.2⟩⟩⟩⟩⟩)⟩, ⟨by (with_reducible repeat (first | apply Kd.S_alloc | apply Kd.S_drewN | apply Kd.S_drew)); exact Kd.S_mono (Kd.S_far (p := ⟨gb621, 2, none⟩) (Kd.S_mono HO_612000.out (fun k_ hk => (⟨hk, hk.2.2⟩ : _ ∧ k_ ≠ gb621))) (fun _ hk => hk.2) (.int .i64 (wrap64 (t633)))) (fun _ hk => ⟨hk.1.1, ⟨hk.1.2.1, hk.1.2.2⟩⟩)⟩, ⟨by (with_reducible repeat (first | apply Kd.R_alloc | apply Kd.R_drewN | apply Kd.R_drew)); exact Kd.R_mono (Kd.R_far (p := ⟨gb621, 2, none⟩) (Kd.R_types HO_622000.out BK621.out (by decide)) (fun _ hk => hk.2) (.int .i64 (wrap64 (t633)))) (fun _ hk => hk.1)⟩, ⟨by (with_reducible repeat (first | refine blk_drewN ?_ _ | refine blk_drew ?_ | refine blk_alloc ?_ _)); refine blk_far ?_ NB610_621.out _; (with_reducible repeat (first | refine blk_drewN ?_ _ | refine blk_drew ?_ | refine blk_alloc ?_ _)); exact BK610.out⟩, ⟨by (with_reducible repeat (first | refine blk_drewN ?_ _ | refine blk_drew ?_ | refine blk_alloc ?_ _)); refine blk_far ?_ NB611_621.out _; (with_reducible repeat (first | refine blk_drewN ?_ _ | refine blk_drew ?_ | refine blk_alloc ?_ _)); exact BK611.out⟩, ⟨by (with_reducible repeat (first | refine blk_drewN ?_ _ | refine blk_drew ?_ | refine blk_alloc ?_ _)); refine blk_put (cs := #[u622000, .int .i64 x622001_4, .int .i64 x622002_4]) ?_ 2 _ rfl; (with_reducible repeat (first | refine blk_drewN ?_ _ | refine blk_drew ?_ | refine blk_alloc ?_ _)); exact BK621.out⟩, ⟨by repeat (first | (with_reducible first | exact HB.out | apply below_alloc | apply pw_below_drewN | apply below_drew1 | refine below_set ?_ GE610.out | refine below_set ?_ GE611.out | refine below_set ?_ GE621.out) | exact HB.out)⟩⟩
                     ·
                      rw [if_neg c46] at H
                      exact absurd H (by simp)
                    ·
                     rw [if_neg c45] at H
                     exact absurd H (by simp)
                ·
                 rw [if_neg c32] at H
                 have c32b0 : decide (x14_4 < (wrap64 ((wrap64 (t622)) + 2))) = false := decide_eq_false c32
                 clear c32
                 by_cases c65 : x612000_2.length < 3518437208883
                 ·
                  rw [if_pos c65] at H
                  have LMc65 := Aside0.mk c65
                  clear c65
                  obtain ⟨y630, hy630⟩ : ∃ y_ : List (S40), y_ = (x612000_2 ++ [(⟨x622000_4, x622001_4, x622002_4⟩ : S40)]) := ⟨_, rfl⟩
                  replace H : (millhandref23_Cut.l0 k4 x0_4 t612 (wrap64 (x9_2 + 1)) y630) = some (r1, r2, r3) := by first | (rw [hy630]; with_reducible exact H) | (have H2_ := (Option.bind_some _ _).symm.trans H; rw [hy630]; with_reducible exact H2_) | (have H2_ := (Option.bind_some _ _).symm.trans H; with_reducible exact H2_) | with_reducible exact H | (rw [hy630]; exact H) | exact H
                  have Ny630 := Aside0.mk hy630
                  clear hy630
                  have H' := Aside0.mk H
                  clear H
                  have hnb66 := NB611_610.out
                  have hnc66 := NB610_611.out
                  have hnb67 := NB611_621.out
                  have hnc67 := NB621_611.out
                  have hcz68_0 : wr.cell? ⟨gb611, 0, none⟩ = some (u612000) := (blk_cell BK611.out 0).trans rfl
                  have hfz68_0 := blk_frozen BK611.out 0
                  have hnb69 := NB621_610.out
                  have hnc69 := NB610_621.out
                  have hcz70_0 : wr.cell? ⟨gb621, 0, none⟩ = some (u622000) := (blk_cell BK621.out 0).trans rfl
                  have hcz70_1 : wr.cell? ⟨gb621, 1, none⟩ = some (.int .i64 x622001_4) := (blk_cell BK621.out 1).trans rfl
                  have hcz70_2 : wr.cell? ⟨gb621, 2, none⟩ = some (.int .i64 x622002_4) := (blk_cell BK621.out 2).trans rfl
                  have hfz70_0 := blk_frozen BK621.out 0
                  have hfz70_1 := blk_frozen BK621.out 1
                  have hfz70_2 := blk_frozen BK621.out 2
                  obtain ⟨Ao72, co72, eo72⟩ := Kd.R_slice HO_622000.out
                  subst eo72
                  go_wp2_with (first | ((with_reducible refine gate_builtin (b := .append) (xs := #[.tmp 101, .tmp 103]) rfl ?_); at_builtin; refine Kd.S_append k40 (w0 := w) w.heap.size rfl (.tmp 101) (.tmp 103) 23 40 (.agg #[(.slice none 0 0), (.int .i64 0), (.int .i64 0)]) 40 rfl Try.underlying23 info40 rfl (by decide) (by omega) u612000 x612000_2 (⟨x622000_4, x622001_4, x622002_4⟩ : S40) [.slice Ao72 x622000_4.length co72, .int .i64 x622001_4, .int .i64 x622002_4] (fun k_ => (w.heap.size ≤ k_) ∧ k_ ≠ gb621) (fun k_ => some k_ = (.slice Ao72 x622000_4.length co72 : Value).ownBlock) rfl rfl ?aP (fun k_ hk_ => ((Kd.R_mono (ok' := fun k_ => ((fun k_ => (w.heap.size ≤ k_) ∧ k_ ≠ gb621)) k_ ∧ some k_ ≠ (u612000 : Value).ownBlock) (Kd.R_types (Kd.R_apart' (HO_622000.out) (Kd.S_typed HO_612000.out) (by decide)) BK621.out (by decide)) (fun k_ hk => ⟨⟨hk.1.1, hk.2⟩, hk.1.2⟩))).1 k_ hk_.symm) ?aF ?aO ?aB ?aS ?aL ?_; (case aP => exact k40_mkM _ _ _ (⟨x622000_4, x622001_4, x622002_4⟩ : S40) (Kd.R_mono (Kd.R_tight rfl (Kd.R_mono (ok' := fun k_ => ((fun k_ => (w.heap.size ≤ k_) ∧ k_ ≠ gb621)) k_ ∧ some k_ ≠ (u612000 : Value).ownBlock) (Kd.R_types (Kd.R_apart' (HO_622000.out) (Kd.S_typed HO_612000.out) (by decide)) BK621.out (by decide)) (fun k_ hk => ⟨⟨hk.1.1, hk.2⟩, hk.1.2⟩))) (fun _ h_ => h_))); (case aB => exact (by repeat (first | (with_reducible first | exact HB.out | apply below_alloc | apply pw_below_drewN | apply below_drew1 | refine below_set ?_ GE610.out | refine below_set ?_ GE611.out | refine below_set ?_ GE621.out) | exact HB.out))); (case aF => exact (fun k_ hk => ⟨(Nat.le_trans (below_size (by repeat (first | (with_reducible first | exact HB.out | apply below_alloc | apply pw_below_drewN | apply below_drew1 | refine below_set ?_ GE610.out | refine below_set ?_ GE611.out | refine below_set ?_ GE621.out) | exact HB.out))) hk), Kd.freshB (g := gb621) (o := .cells #[.slice Ao72 x622000_4.length co72, .int .i64 x622001_4, .int .i64 x622002_4] 40 (0, 0)) (by (with_reducible repeat (first | refine blk_drewN ?_ _ | refine blk_drew ?_ | refine blk_alloc ?_ _)); exact BK621.out) k_ hk⟩)); (case aO => exact (by (with_reducible repeat (first | apply Kd.S_alloc | apply Kd.S_drewN | apply Kd.S_drew)); exact Kd.S_mono HO_612000.out (fun k_ hk => ⟨⟨hk.1, hk.2.2⟩, fun e_ => hk.2.1 e_⟩))); (case aS => exact (below_size (by repeat (first | (with_reducible first | exact HB.out | apply below_alloc | apply pw_below_drewN | apply below_drew1 | refine below_set ?_ GE610.out | refine below_set ?_ GE611.out | refine below_set ?_ GE621.out) | exact HB.out)))); (case aL => have := LMc65.out; omega); intro v631 w71 ho hb hg hat; rw [← Ny630.out] at ho; have n0_ := Aside0.mk (Kd.V_afterv (ok := (fun k_ => (P0_ k_ ∨ w.heap.size ≤ k_) ∧ some k_ ≠ (.slice Ao72 x622000_4.length co72 : Value).ownBlock ∧ k_ ≠ gb610 ∧ k_ ≠ gb611 ∧ k_ ≠ gb621)) (by (with_reducible repeat (first | apply Kd.V_alloc | apply Kd.V_drewN | apply Kd.V_drew)); exact Kd.V_mono HO_0.out (fun _ hk => ⟨⟨hk.1, ⟨hk.2.2.1, ⟨hk.2.2.2.1, ⟨hk.2.2.2.2.1, hk.2.2.2.2.2⟩⟩⟩⟩, hk.2.1⟩)) hg hat); have n1_ := Aside0.mk (blk_grown (g := gb610) (o := .cells #[.slice none 0 0] 25 (0, 0)) (by (with_reducible repeat (first | refine blk_drewN ?_ _ | refine blk_drew ?_ | refine blk_alloc ?_ _)); exact BK610.out) hg (Kd.S_ne HO_612000.out BK610.out (by decide))); have n2_ := Aside0.mk (blk_grown (g := gb611) (o := .cells #[u612000] 25 (0, 0)) (by (with_reducible repeat (first | refine blk_drewN ?_ _ | refine blk_drew ?_ | refine blk_alloc ?_ _)); exact BK611.out) hg (Kd.S_ne HO_612000.out BK611.out (by decide))); have n3_ := Aside0.mk (blk_grown (g := gb621) (o := .cells #[.slice Ao72 x622000_4.length co72, .int .i64 x622001_4, .int .i64 x622002_4] 40 (0, 0)) (by (with_reducible repeat (first | refine blk_drewN ?_ _ | refine blk_drew ?_ | refine blk_alloc ?_ _)); exact BK621.out) hg (Kd.S_away HO_612000.out (fun _ hk => hk.2.2))); have n4_ := Aside0.mk (hb); have n5_ := Aside0.mk (ho); clear HO_0; clear BK610; clear BK611; clear BK621; clear HB; clear HO_612000; clear HO_622000; have HO_0 := n0_; have BK610 := n1_; have BK611 := n2_; have BK621 := n3_; have HB := n4_; have HO632 := n5_; clear n0_ n1_ n2_ n3_ n4_ n5_; clear ho hb hg hat; obtain ⟨Ao73, co73, eo73⟩ := Kd.S_slice HO632.out; subst eo73; have hcz74_0 : w71.cell? ⟨gb611, 0, none⟩ = some (u612000) := (blk_cell BK611.out 0).trans rfl; have hfz74_0 := blk_frozen BK611.out 0))
                  go_roundg k4
                  case measure => have := HJ2.out; have := HK2.out; have := HJ16.out; have := HK4.out; omega
                  case rel => exact ⟨(x0_4), (wrap64 (x9_2 + 1)), (y630), (.slice Ao73 y630.length co73), (by first | rfl | (simp; done) | (simp [*]; done)), H', ⟨by have := HJ2.out; have := HK2.out; have := HJ16.out; have := HK4.out; omega⟩, ⟨by (with_reducible repeat (first | apply Kd.V_alloc | apply Kd.V_drewN | apply Kd.V_drew)); exact Kd.V_mono (Kd.V_far (p := ⟨gb611, 0, none⟩) (Kd.V_mono HO_0.out (fun k_ hk => (⟨hk, hk.1.2.2.2.1⟩ : _ ∧ k_ ≠ gb611))) (fun _ hk => hk.2) (.slice Ao73 y630.length co73)) (fun _ hk => ⟨hk.1.1.1, ⟨hk.1.2, ⟨hk.1.1.2.2.1, hk.1.1.2.2.2.1⟩⟩⟩)⟩, ⟨by (with_reducible repeat (first | apply Kd.S_alloc | apply Kd.S_drewN | apply Kd.S_drew)); exact Kd.S_mono (Kd.S_far (p := ⟨gb611, 0, none⟩) (Kd.S_types HO632.out BK611.out (by decide)) (fun _ hk => hk.2) (.slice Ao73 y630.length co73)) (fun _ hk => hk.1.1)⟩, ⟨by (with_reducible repeat (first | refine blk_drewN ?_ _ | refine blk_drew ?_ | refine blk_alloc ?_ _)); refine blk_far ?_ NB610_611.out _; (with_reducible repeat (first | refine blk_drewN ?_ _ | refine blk_drew ?_ | refine blk_alloc ?_ _)); exact BK610.out⟩, ⟨by (with_reducible repeat (first | refine blk_drewN ?_ _ | refine blk_drew ?_ | refine blk_alloc ?_ _)); refine blk_put (cs := #[u612000]) ?_ 0 _ rfl; (with_reducible repeat (first | refine blk_drewN ?_ _ | refine blk_drew ?_ | refine blk_alloc ?_ _)); exact BK611.out⟩, ⟨by repeat (first | (with_reducible first | exact HB.out | apply below_alloc | apply pw_below_drewN | apply below_drew1 | refine below_set ?_ GE610.out | refine below_set ?_ GE611.out | refine below_set ?_ GE621.out) | exact HB.out)⟩⟩
                 ·
                  rw [if_neg c65] at H
                  exact absurd H (by simp)
             ·
              rw [if_neg c30] at H
              exact absurd H (by simp)
            ·
             rw [if_neg c29] at H
             exact absurd H (by simp)
        ·
         rw [if_neg c15] at H
         have c15b0 : decide (x9_2 < (wrap64 (t612))) = false := decide_eq_false c15
         clear c15
         replace H := Option.bind_eq_some_iff.mp H
         obtain ⟨t620, A750, H⟩ := H
         replace H : (some (x612000_2, x0_2, t620)) = some (r1, r2, r3) := H
         have A75 := Aside0.mk A750
         clear A750
         simp only [Option.some.injEq, Prod.mk.injEq] at H
         obtain ⟨rfl, rfl, rfl⟩ := H
         try go_wp2
         have n0_ := Aside0.mk (Kd.V_drew HO_0.out)
         have n1_ := Aside0.mk (Kd.S_drew HO_612000.out)
         have n2_ := Aside0.mk (blk_drew BK610.out)
         have n3_ := Aside0.mk (blk_drew BK611.out)
         have n4_ := Aside0.mk (below_drew1 HB.out)
         clear HO_0
         clear HO_612000
         clear BK610
         clear BK611
         clear HB
         have HO_0 := n0_
         have HO_612000 := n1_
         have BK610 := n2_
         have BK611 := n3_
         have HB := n4_
         clear n0_ n1_ n2_ n3_ n4_
         obtain ⟨Ao77, co77, eo77⟩ := Kd.S_slice HO_612000.out
         (first | subst eo77 | (injection eo77 with f1_ f2_ f3_; have f4_ := f1_.symm; have f5_ := f3_.symm; clear f1_ f2_ f3_; subst f4_; subst f5_))
         refine start_ (n := 7) (S := fun w' => w'.cell? ⟨gb611, 0, none⟩ = some (.slice Ao77 x612000_2.length co77)) (ds := []) (b_ 7 0) (by kernel_rfl) rfl rfl ((blk_cell BK611.out 0).trans rfl) (fun hHeld => ?_)
         generalize wr.drew = w76 at HO_0 HO_612000 BK610 BK611 HB hHeld ⊢
         refine pure_ (i := 1) (N := some 107) (v := ?_) (a' := ?_) (b_ 7 2) rfl rfl (by kernel_rfl) (fun _ _ _ h => h) (Or.inl ⟨by rfl, ?_⟩) ?_ ?_
         rotate_left
         ·
          intro w'
          go_simp
          with_reducible rfl
         rotate_left
         ·
          simp only [Act.put, sa_, s0_, s1_, i64_w, i32_w]
          rfl
         refine take_ (i := 0) (N := some 106) (v := ?_) (a' := ?_) (b_ 7 3) rfl rfl (by kernel_rfl) (fun _ _ _ h => h) (Or.inl ⟨by rfl, ?_⟩) hHeld ?_ ?_
         rotate_left
         ·
          intro w' s0
          go_simp
          with_reducible rfl
         rotate_left
         ·
          simp only [Act.put, sa_, s0_, s1_, i64_w, i32_w]
          rfl
         refine take_ (i := 2) (N := some 108) (v := ?_) (a' := ?_) (b_ 7 7) rfl rfl (by kernel_rfl) (fun _ _ _ h => h) (Or.inl ⟨by rfl, ?_⟩) hHeld ?_ ?_
         rotate_left
         ·
          intro w' s0
          go_simp
          with_reducible rfl
         rotate_left
         ·
          simp only [Act.put, sa_, s0_, s1_, i64_w, i32_w]
          rfl
         refine one_ (i := 3) (N := some 109) (b_ 7 15) rfl rfl (by kernel_rfl) (by decide) (fun K hK => ?_)
         refine goes_ Try.func38 (by kernel_rfl) rfl #[.agg #[.slice Ao77 x612000_2.length co77]] (by rfl) rfl rfl (by (try simp only [List.map_toArray, List.map_cons, List.map_nil]); first | done | rfl | (simp only [List.length_drop, List.length_take]; rfl)) ?_
         with_reducible refine (millhandref23_May.calls k2 _ _ x612000_2 t620 _ ?side1 ?side2 A75.out).mono ?_
         (case side1 => repeat (first | exact (Kd.S_reads' HO_612000.out).2.2 | (with_reducible refine Kd.C_alloc ?_ _) | (with_reducible refine Kd.C_drewN ?_ _) | (with_reducible refine Kd.C_drew ?_)))
         (case side2 => exact (Kd.S_reads' HO_612000.out).2.1)
         rintro e w78 ⟨rfl, hb⟩
         refine ⟨_, rfl, ?_⟩
         have n0_ := Aside0.mk (Kd.V_below (by (with_reducible repeat (first | apply Kd.V_alloc | apply Kd.V_drewN | apply Kd.V_drew)); exact HO_0.out) hb)
         have n1_ := Aside0.mk (Kd.S_below (by (with_reducible repeat (first | apply Kd.S_alloc | apply Kd.S_drewN | apply Kd.S_drew)); exact HO_612000.out) hb)
         have n2_ := Aside0.mk (blk_below (g := gb610) (o := .cells #[.slice none 0 0] 25 (0, 0)) (by (with_reducible repeat (first | refine blk_drewN ?_ _ | refine blk_drew ?_ | refine blk_alloc ?_ _)); exact BK610.out) hb)
         have n3_ := Aside0.mk (blk_below (g := gb611) (o := .cells #[.slice Ao77 x612000_2.length co77] 25 (0, 0)) (by (with_reducible repeat (first | refine blk_drewN ?_ _ | refine blk_drew ?_ | refine blk_alloc ?_ _)); exact BK611.out) hb)
         have n4_ := Aside0.mk (below_step (by repeat (first | (with_reducible first | exact HB.out | apply below_alloc | apply pw_below_drewN | apply below_drew1 | refine below_set ?_ GE610.out | refine below_set ?_ GE611.out) | exact HB.out)) hb)
         clear HO_0
         clear HO_612000
         clear BK610
         clear BK611
         clear HB
         have HO_0 := n0_
         have HO_612000 := n1_
         have BK610 := n2_
         have BK611 := n3_
         have HB := n4_
         clear n0_ n1_ n2_ n3_ n4_
         (try clear hb)
         (try clear hb2)
         (try clear hk)
         (try clear hi)
         refine hK.out _ _ ((blk_cell BK611.out 0).trans rfl) (fun hHeld => ?_)
         clear hK K
         refine norm_ (a' := ?_) ?_ ?_
         rotate_left
         ·
          show Act.put _ (some 109) _ = _
          simp only [Act.put, sa_, s0_, s1_, i64_w, i32_w]
          rfl
         refine one_ (i := 4) (N := none) (b_ 7 31) rfl rfl (by kernel_rfl) (by decide) (fun K hK => ?_)
         have hs79 : w78.cell? ⟨gb610, 0, none⟩ = some (.slice none 0 0) := (blk_cell BK610.out 0).trans rfl
         have hfs79 := blk_frozen BK610.out 0
         have hns79_1 := NB611_610.out
         have hms79_1 := NB610_611.out
         refine skip_ (w1 := ?_) (by rfl) rfl ?_ ?_
         rotate_left
         ·
          go_simp
          rfl
         refine hK.out _ _ (((cell_far (p := ⟨gb610, _, none⟩) NB611_610.out _).trans (hHeld))) (fun hHeld => ?_)
         clear hK K
         refine pure_ (i := 5) (N := some 3) (v := ?_) (a' := ?_) (b_ 7 63) rfl rfl (by kernel_rfl) (fun _ _ _ h => h) (Or.inl ⟨by rfl, ?_⟩) ?_ ?_
         rotate_left
         ·
          intro w'
          go_simp
          with_reducible rfl
         rotate_left
         ·
          simp only [Act.put, sa_, s0_, s1_, i64_w, i32_w]
          rfl
         refine pure_ (i := 6) (N := some 4) (v := ?_) (a' := ?_) (b_ 7 127) rfl rfl (by kernel_rfl) (fun _ _ _ h => h) (Or.inl ⟨by rfl, ?_⟩) ?_ ?_
         rotate_left
         ·
          intro w'
          go_simp
          with_reducible rfl
         rotate_left
         ·
          simp only [Act.put, sa_, s0_, s1_, i64_w, i32_w]
          rfl
         refine done_ (by kernel_rfl) ?_
         try go_wp2
         refine bodyPost_ret (results_ctt rfl _ _ gb610 25 #[.slice Ao77 x612000_2.length co77] (0, 0) _ rfl (by (with_reducible repeat (first | refine blk_drewN ?_ _ | refine blk_drew ?_ | refine blk_alloc ?_ _)); refine blk_put (cs := #[.slice none 0 0]) ?_ 0 _ rfl; (with_reducible repeat (first | refine blk_drewN ?_ _ | refine blk_drew ?_ | refine blk_alloc ?_ _)); exact BK610.out) Try.underlying25 rfl (by kernel_rfl)) rfl ?_
         exact ⟨_, _, by first | rfl | (simp [errW_none, errW_some] <;> rfl) | (simp [*, errW_none, errW_some] <;> rfl) | exact ret_ie _ | (simp [*, errW_none, errW_some, bne]; done), by (with_reducible repeat (first | apply Kd.S_alloc | apply Kd.S_drewN | apply Kd.S_drew)); exact Kd.S_mono (Kd.S_far (p := ⟨gb610, 0, none⟩) (Kd.S_types HO_612000.out BK610.out (by decide)) (fun _ hk => hk.2) (.slice Ao77 x612000_2.length co77)) (fun _ hk => hk.1), by (with_reducible repeat (first | apply Kd.V_alloc | apply Kd.V_drewN | apply Kd.V_drew)); exact Kd.V_mono (Kd.V_far (p := ⟨gb610, 0, none⟩) (Kd.V_mono HO_0.out (fun k_ hk => (⟨hk, hk.2.2.1⟩ : _ ∧ k_ ≠ gb610))) (fun _ hk => hk.2) (.slice Ao77 x612000_2.length co77)) (fun _ hk => ⟨hk.1.1, hk.1.2.1⟩), by repeat (first | (with_reducible first | exact HB.out | apply below_alloc | apply pw_below_drewN | apply below_drew1 | refine below_set ?_ GE610.out | refine below_set ?_ GE611.out) | exact HB.out)⟩
     ·
      rw [if_neg c13] at H
      exact absurd H (by simp)
    ·
     rw [if_neg c12] at H
     exact absurd H (by simp)

end Go.Proofs.Ytoplhlacdjlidaa.R

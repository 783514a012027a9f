/- Contracts of Go functions and what they come to, over the translation of this seat: made by a program of this session (print2.py). -/
import Derived.Test.YtbgfjhnbmfgccaaSh
import Derived.Test.YtbgfjhnbmfgccaaRx0
import Derived.Test.YtbgfjhnbmfgccaaRx2
namespace Go.Proofs.Ytbgfjhnbmfgccaa.R
open Go.RowKit Go.Proofs.Ytbgfjhnbmfgccaa.Sh Go.Proofs.Ytbgfjhnbmfgccaa.Co Go.Proofs.Ytbgfjhnbmfgccaa.Ret Go.Proofs.Ytbgfjhnbmfgccaa.Plain Go.Proofs.YtbgfjhnbmfgccaaW.PrintWords Go.Proofs.YtbgfjhnbmfgccaaW.PrintLast Go.Proofs.YtbgfjhnbmfgccaaW.PrintMore
attribute [local go_sem] max2_int min2_int max_two min_two max_three min_three max_four min_four   -- for this text's walks alone
set_option linter.unusedVariables false
set_option linter.unusedSimpArgs false

/-! ### task_may: function 34 -/
mutual
def task_may.j0 : Nat → Bool → List Int → Int → Int → Int → Int → Int → Int → Int → Option (Bool)
 | 0, _, _, _, _, _, _, _, _, _ => none
 | k + 1, x33, x104000, x104001, x104002, x105000, x105001, x105002, x105003, x105004 => if x33 = true then (some false) else (if x105002 = 0 then (if x105003 = 0 then (task_may.j1 k (x105004 == 0) x104000 x104001 x104002 x105000 x105001 x105002 x105003 x105004) else (task_may.j1 k false x104000 x104001 x104002 x105000 x105001 x105002 x105003 x105004)) else (task_may.j1 k false x104000 x104001 x104002 x105000 x105001 x105002 x105003 x105004))
def task_may.j1 : Nat → Bool → List Int → Int → Int → Int → Int → Int → Int → Int → Option (Bool)
 | 0, _, _, _, _, _, _, _, _, _ => none
 | k + 1, x5, x104000, x104001, x104002, x105000, x105001, x105002, x105003, x105004 => if x105000 = 0 then (if x105001 = 0 then (some x5) else (some false)) else (if x105000 = 1 then (if x105001 < x104001 then (if x105002 = 0 then (some (x105003 == 0)) else (some false)) else (some false)) else (if x105000 = 2 then (if x105001 ≥ 1 then (if x105003 ≥ 1 then (some (x105004 == 0)) else (some false)) else (some false)) else (if x105000 = 3 then (if x105001 ≥ 1 then (if x105001 < x104001 then (if x105003 = 0 then (some (x105004 == 0)) else (some false)) else (some false)) else (some false)) else (if x105000 = 4 then (if x105001 ≥ 1 then (some x5) else (some false)) else (if x105000 = 5 then (if x105001 = x104001 then (some x5) else (some false)) else (if x105000 = 6 then (some x5) else (some false)))))))
end
def task_may.f (k : Nat) (l0_0 : List Int) (a0_1 : Int) (a0_2 : Int) (a1_0 : Int) (a1_1 : Int) (a1_2 : Int) (a1_3 : Int) (a1_4 : Int) : Option (Bool) := if a1_1 < 0 then (task_may.j0 k true l0_0 a0_1 a0_2 a1_0 a1_1 a1_2 a1_3 a1_4) else (if a1_1 > a0_1 then (task_may.j0 k true l0_0 a0_1 a0_2 a1_0 a1_1 a1_2 a1_3 a1_4) else ((task_moment.f a1_2).bind fun t105 => (if t105 = true then ((task_count.f a1_3).bind fun t106 => (if t106 = true then ((task_count.f a1_4).bind fun t107 => (task_may.j0 k (!t107) l0_0 a0_1 a0_2 a1_0 a1_1 a1_2 a1_3 a1_4)) else (task_may.j0 k true l0_0 a0_1 a0_2 a1_0 a1_1 a1_2 a1_3 a1_4))) else (task_may.j0 k true l0_0 a0_1 a0_2 a1_0 a1_1 a1_2 a1_3 a1_4))))
theorem task_may.mono_l : ∀ k, (∀ y0 y1 y2 y3 y4 y5 y6 y7 y8, LeO (task_may.j0 k y0 y1 y2 y3 y4 y5 y6 y7 y8) (task_may.j0 (k + 1) y0 y1 y2 y3 y4 y5 y6 y7 y8)) ∧ (∀ y0 y1 y2 y3 y4 y5 y6 y7 y8, LeO (task_may.j1 k y0 y1 y2 y3 y4 y5 y6 y7 y8) (task_may.j1 (k + 1) y0 y1 y2 y3 y4 y5 y6 y7 y8))
 | 0 => ⟨fun _ _ _ _ _ _ _ _ _ r h => by simp [task_may.j0] at h, fun _ _ _ _ _ _ _ _ _ r h => by simp [task_may.j1] at h⟩
 | k + 1 => by
  obtain ⟨ih0, ih1⟩ := task_may.mono_l k
  refine ⟨?_, ?_⟩
  ·
   intro y0 y1 y2 y3 y4 y5 y6 y7 y8
   unfold task_may.j0
   repeat' first
   | (with_reducible exact ih0 _ _ _ _ _ _ _ _ _)
   | (with_reducible exact ih1 _ _ _ _ _ _ _ _ _)
   | (with_reducible exact LeO.refl _)
   | (with_reducible exact LeO.none _)
   | (with_reducible refine LeO.ite ?_ ?_)
   | (with_reducible refine LeO.bind ?_ (fun _ => ?_))
   | exact ih0 _ _ _ _ _ _ _ _ _
   | exact ih1 _ _ _ _ _ _ _ _ _
   | exact LeO.none _
   | refine LeO.ite ?_ ?_
   | refine LeO.bind ?_ (fun _ => ?_)
  ·
   intro y0 y1 y2 y3 y4 y5 y6 y7 y8
   unfold task_may.j1
   repeat' first
   | (with_reducible exact ih0 _ _ _ _ _ _ _ _ _)
   | (with_reducible exact ih1 _ _ _ _ _ _ _ _ _)
   | (with_reducible exact LeO.refl _)
   | (with_reducible exact LeO.none _)
   | (with_reducible refine LeO.ite ?_ ?_)
   | (with_reducible refine LeO.bind ?_ (fun _ => ?_))
   | exact ih0 _ _ _ _ _ _ _ _ _
   | exact ih1 _ _ _ _ _ _ _ _ _
   | exact LeO.none _
   | refine LeO.ite ?_ ?_
   | refine LeO.bind ?_ (fun _ => ?_)
theorem task_may.mono : ∀ a0 a1 a2 a3 a4 a5 a6 a7 k, LeO (task_may.f k a0 a1 a2 a3 a4 a5 a6 a7) (task_may.f (k + 1) a0 a1 a2 a3 a4 a5 a6 a7) := by
 intro a0 a1 a2 a3 a4 a5 a6 a7 k
 obtain ⟨ih0, ih1⟩ := task_may.mono_l k
 unfold task_may.f
 repeat' first
   | (with_reducible exact ih0 _ _ _ _ _ _ _ _ _)
   | (with_reducible exact ih1 _ _ _ _ _ _ _ _ _)
   | (with_reducible exact LeO.refl _)
   | (with_reducible exact LeO.none _)
   | (with_reducible refine LeO.ite ?_ ?_)
   | (with_reducible refine LeO.bind ?_ (fun _ => ?_))
   | exact ih0 _ _ _ _ _ _ _ _ _
   | exact ih1 _ _ _ _ _ _ _ _ _
   | exact LeO.none _
   | refine LeO.ite ?_ ?_
   | refine LeO.bind ?_ (fun _ => ?_)
set_option maxHeartbeats 8000000 in
set_option maxRecDepth 100000 in
theorem task_may.calls (k : Nat) (A0_0 : Option Addr) (c0_0 : Nat) (l0_0 : List Int) (a0_1 : Int) (a0_2 : Int) (a1_0 : Int) (a1_1 : Int) (a1_2 : Int) (a1_3 : Int) (a1_4 : Int) (r : Bool) (w : World) (hr0_0 : Kd.C (Kd.int .i64) w A0_0 l0_0.length l0_0) (hc0_0 : l0_0.length ≤ c0_0) (h : task_may.f k l0_0 a0_1 a0_2 a1_0 a1_1 a1_2 a1_3 a1_4 = some r) :
  Calls Try.prog 34 #[.agg #[.slice A0_0 l0_0.length c0_0, .int .i64 a0_1, .int .i64 a0_2], .agg #[.int .u8 a1_0, .int .i64 a1_1, .int .i64 a1_2, .int .i64 a1_3, .int .i64 a1_4]] w fun e w' => e = .returned (.bool r) ∧ Below w.heap.size w w' := by
 have hu24 := Try.underlying24
 have hu31 := Try.underlying31
 have HR0_0 := Aside0.mk hr0_0
 have HC0_0 := Aside0.mk hc0_0
 clear hr0_0 hc0_0
 have HB := Aside0.mk (Below.refl w.heap.size w)
 have H : (if a1_1 < 0 then (task_may.j0 k true l0_0 a0_1 a0_2 a1_0 a1_1 a1_2 a1_3 a1_4) else (if a1_1 > a0_1 then (task_may.j0 k true l0_0 a0_1 a0_2 a1_0 a1_1 a1_2 a1_3 a1_4) else ((task_moment.f a1_2).bind fun t105 => (if t105 = true then ((task_count.f a1_3).bind fun t106 => (if t106 = true then ((task_count.f a1_4).bind fun t107 => (task_may.j0 k (!t107) l0_0 a0_1 a0_2 a1_0 a1_1 a1_2 a1_3 a1_4)) else (task_may.j0 k true l0_0 a0_1 a0_2 a1_0 a1_1 a1_2 a1_3 a1_4))) else (task_may.j0 k true l0_0 a0_1 a0_2 a1_0 a1_1 a1_2 a1_3 a1_4))))) = some r := h
 clear h
 have HC3 := Aside0.mk H
 clear H
 go_enter Try.func34, Try.ntmps34
 go_upto_region 1 with (first | ((with_reducible refine gate_dst (N := 2) rfl ?_); refine box_event ?hg (N := 2) ?hd (cs := #[.slice A0_0 l0_0.length c0_0, .int .i64 a0_1, .int .i64 a0_2]) (t := 24) ?hr ?_; (case hd => rfl); (case hg => rfl); (case hr => first | (go_simp; done) | (go_simp; rfl)); intro gb103 hg w4 hbox hb; have BK103 := Aside0.mk (hbox); have GW103 := bz_ (hB_ HB.out) hg; have GE103 := bz_ (hB_ HB.out) hg; replace HB := Aside0.mk (below_step (hB_ HB.out) hb); clear hb hbox hg) | ((with_reducible refine gate_dst (N := 3) rfl ?_); refine box_event ?hg (N := 3) ?hd (cs := #[.int .u8 a1_0, .int .i64 a1_1, .int .i64 a1_2, .int .i64 a1_3, .int .i64 a1_4]) (t := 31) ?hr ?_; (case hd => rfl); (case hg => rfl); (case hr => first | (go_simp; done) | (go_simp; rfl)); intro gb104 hg w5 hbox hb; have BK104 := Aside0.mk (hbox); have GW104 := bz_ (hB_ HB.out) hg; have GE104 := bz_ (hB_ HB.out) hg; replace HB := Aside0.mk (below_step (hB_ HB.out) hb); have NB103_104 := bn_ BK103 hg; have NB104_103 := bm_ BK103 hg; replace BK103 := bs_ BK103 hb; clear hb hbox hg))
 (try simp only [Act.put, sa_, s0_, s1_])
 go_cut [33] (fun v33 wc => ∃ (kq : Nat) (x33_2 : Bool), v33 = .bool x33_2 ∧ Aside0 (task_may.j0 kq x33_2 l0_0 a0_1 a0_2 a1_0 a1_1 a1_2 a1_3 a1_4 = some r) ∧ Aside0 (kq ≤ k) ∧ Aside0 (wc.heap[gb103]? = some (.cells #[(.slice A0_0 l0_0.length c0_0), .int .i64 a0_1, .int .i64 a0_2] 24 (0, 0))) ∧ Aside0 (wc.heap[gb104]? = some (.cells #[.int .u8 a1_0, .int .i64 a1_1, .int .i64 a1_2, .int .i64 a1_3, .int .i64 a1_4] 31 (0, 0))) ∧ Aside0 (Below w.heap.size w wc))
 case first =>
  have H := HC3.out
  clear HC3
  by_cases c6 : a1_1 < 0
  ·
   rw [if_pos c6] at H
   have c6b0 : decide (a1_1 < 0) = true := decide_eq_true c6
   clear c6
   (first | rw [c6b0] | (simp only [i64_w, i32_w]; rw [c6b0]) | skip)
   have H' := Aside0.mk H
   clear H
   have hcz8_0 : w5.cell? ⟨gb104, 0, none⟩ = some (.int .u8 a1_0) := ck_ BK104 0
   have hcz8_1 : w5.cell? ⟨gb104, 1, none⟩ = some (.int .i64 a1_1) := ck_ BK104 1
   have hcz8_2 : w5.cell? ⟨gb104, 2, none⟩ = some (.int .i64 a1_2) := ck_ BK104 2
   have hcz8_3 : w5.cell? ⟨gb104, 3, none⟩ = some (.int .i64 a1_3) := ck_ BK104 3
   have hcz8_4 : w5.cell? ⟨gb104, 4, none⟩ = some (.int .i64 a1_4) := ck_ BK104 4
   have hfz8_0 := blk_frozen BK104.out 0
   have hfz8_1 := blk_frozen BK104.out 1
   have hfz8_2 := blk_frozen BK104.out 2
   have hfz8_3 := blk_frozen BK104.out 3
   have hfz8_4 := blk_frozen BK104.out 4
   go_wp2
   go_meet
   case rel => exact ⟨_, (true), (by first | rfl | (simp; done) | (simp [*]; done)), H', ⟨by first | omega | exact Nat.le_refl _⟩, ⟨by (with_reducible repeat (first | refine blk_drewN ?_ _ | refine blk_drew ?_ | refine blk_alloc ?_ _)); exact BK103.out⟩, ⟨by (with_reducible repeat (first | refine blk_drewN ?_ _ | refine blk_drew ?_ | refine blk_alloc ?_ _)); exact BK104.out⟩, ⟨by repeat (first | (with_reducible first | exact HB.out | apply below_alloc | apply pw_below_drewN | apply below_drew1 | refine below_set ?_ GE103.out | refine below_set ?_ GE104.out) | exact HB.out)⟩⟩
  ·
   rw [if_neg c6] at H
   have c6b0 : decide (a1_1 < 0) = false := decide_eq_false c6
   clear c6
   (first | rw [c6b0] | (simp only [i64_w, i32_w]; rw [c6b0]) | skip)
   by_cases c9 : a1_1 > a0_1
   ·
    rw [if_pos c9] at H
    have c9b0 : decide (a0_1 < a1_1) = true := decide_eq_true c9
    clear c9
    have H' := Aside0.mk H
    clear H
    have hnb10 := NB104_103.out
    have hnc10 := NB103_104.out
    have hcz11_0 : w5.cell? ⟨gb104, 0, none⟩ = some (.int .u8 a1_0) := ck_ BK104 0
    have hcz11_1 : w5.cell? ⟨gb104, 1, none⟩ = some (.int .i64 a1_1) := ck_ BK104 1
    have hcz11_2 : w5.cell? ⟨gb104, 2, none⟩ = some (.int .i64 a1_2) := ck_ BK104 2
    have hcz11_3 : w5.cell? ⟨gb104, 3, none⟩ = some (.int .i64 a1_3) := ck_ BK104 3
    have hcz11_4 : w5.cell? ⟨gb104, 4, none⟩ = some (.int .i64 a1_4) := ck_ BK104 4
    have hfz11_0 := blk_frozen BK104.out 0
    have hfz11_1 := blk_frozen BK104.out 1
    have hfz11_2 := blk_frozen BK104.out 2
    have hfz11_3 := blk_frozen BK104.out 3
    have hfz11_4 := blk_frozen BK104.out 4
    have hcz12_0 : w5.cell? ⟨gb103, 0, none⟩ = some (.slice A0_0 l0_0.length c0_0) := ck_ BK103 0
    have hcz12_1 : w5.cell? ⟨gb103, 1, none⟩ = some (.int .i64 a0_1) := ck_ BK103 1
    have hcz12_2 : w5.cell? ⟨gb103, 2, none⟩ = some (.int .i64 a0_2) := ck_ BK103 2
    have hfz12_0 := blk_frozen BK103.out 0
    have hfz12_1 := blk_frozen BK103.out 1
    have hfz12_2 := blk_frozen BK103.out 2
    go_wp2
    go_meet
    case rel => exact ⟨_, (true), (by first | rfl | (simp; done) | (simp [*]; done)), H', ⟨by first | omega | exact Nat.le_refl _⟩, ⟨by (with_reducible repeat (first | refine blk_drewN ?_ _ | refine blk_drew ?_ | refine blk_alloc ?_ _)); exact BK103.out⟩, ⟨by (with_reducible repeat (first | refine blk_drewN ?_ _ | refine blk_drew ?_ | refine blk_alloc ?_ _)); exact BK104.out⟩, ⟨by repeat (first | (with_reducible first | exact HB.out | apply below_alloc | apply pw_below_drewN | apply below_drew1 | refine below_set ?_ GE103.out | refine below_set ?_ GE104.out) | exact HB.out)⟩⟩
   ·
    rw [if_neg c9] at H
    have c9b0 : decide (a0_1 < a1_1) = false := decide_eq_false c9
    clear c9
    replace H := Option.bind_eq_some_iff.mp H
    obtain ⟨t105, A130, H⟩ := H
    try dsimp only at H
    have A13 := Aside0.mk A130
    clear A130
    by_cases c14 : t105 = true
    ·
     subst c14
     have H1 : ((task_count.f a1_3).bind fun t106 => (if t106 = true then ((task_count.f a1_4).bind fun t107 => (task_may.j0 k (!t107) l0_0 a0_1 a0_2 a1_0 a1_1 a1_2 a1_3 a1_4)) else (task_may.j0 k true l0_0 a0_1 a0_2 a1_0 a1_1 a1_2 a1_3 a1_4))) = some r := by rw [if_pos rfl] at H; exact H
     clear H
     have H := H1
     clear H1
     replace H := Option.bind_eq_some_iff.mp H
     obtain ⟨t106, A150, H⟩ := H
     replace H : (if t106 = true then ((task_count.f a1_4).bind fun t107 => (task_may.j0 k (!t107) l0_0 a0_1 a0_2 a1_0 a1_1 a1_2 a1_3 a1_4)) else (task_may.j0 k true l0_0 a0_1 a0_2 a1_0 a1_1 a1_2 a1_3 a1_4)) = some r := H
     have A15 := Aside0.mk A150
     clear A150
     by_cases c16 : t106 = true
     ·
      subst c16
      have H1 : ((task_count.f a1_4).bind fun t107 => (task_may.j0 k (!t107) l0_0 a0_1 a0_2 a1_0 a1_1 a1_2 a1_3 a1_4)) = some r := by rw [if_pos rfl] at H; exact H
      clear H
      have H := H1
      clear H1
      replace H := Option.bind_eq_some_iff.mp H
      obtain ⟨t107, A170, H⟩ := H
      replace H : (task_may.j0 k (!t107) l0_0 a0_1 a0_2 a1_0 a1_1 a1_2 a1_3 a1_4) = some r := H
      have A17 := Aside0.mk A170
      clear A170
      have H' := Aside0.mk H
      clear H
      have hnb18 := NB104_103.out
      have hnc18 := NB103_104.out
      have hcz19_0 : w5.cell? ⟨gb104, 0, none⟩ = some (.int .u8 a1_0) := ck_ BK104 0
      have hcz19_1 : w5.cell? ⟨gb104, 1, none⟩ = some (.int .i64 a1_1) := ck_ BK104 1
      have hcz19_2 : w5.cell? ⟨gb104, 2, none⟩ = some (.int .i64 a1_2) := ck_ BK104 2
      have hcz19_3 : w5.cell? ⟨gb104, 3, none⟩ = some (.int .i64 a1_3) := ck_ BK104 3
      have hcz19_4 : w5.cell? ⟨gb104, 4, none⟩ = some (.int .i64 a1_4) := ck_ BK104 4
      have hfz19_0 := blk_frozen BK104.out 0
      have hfz19_1 := blk_frozen BK104.out 1
      have hfz19_2 := blk_frozen BK104.out 2
      have hfz19_3 := blk_frozen BK104.out 3
      have hfz19_4 := blk_frozen BK104.out 4
      have hcz20_0 : w5.cell? ⟨gb103, 0, none⟩ = some (.slice A0_0 l0_0.length c0_0) := ck_ BK103 0
      have hcz20_1 : w5.cell? ⟨gb103, 1, none⟩ = some (.int .i64 a0_1) := ck_ BK103 1
      have hcz20_2 : w5.cell? ⟨gb103, 2, none⟩ = some (.int .i64 a0_2) := ck_ BK103 2
      have hfz20_0 := blk_frozen BK103.out 0
      have hfz20_1 := blk_frozen BK103.out 1
      have hfz20_2 := blk_frozen BK103.out 2
      go_wp2_with (first | (go_at_call 36; (with_reducible refine (task_moment.calls a1_2 true _ A13.out).mono ?_); rintro e w' ⟨rfl, ⟨nd, rfl⟩⟩) | (go_at_call 39; (with_reducible refine (task_count.calls a1_3 true _ A15.out).mono ?_); rintro e w' ⟨rfl, ⟨nd, rfl⟩⟩) | (go_at_call 39; (with_reducible refine (task_count.calls a1_4 t107 _ A17.out).mono ?_); rintro e w' ⟨rfl, ⟨nd, rfl⟩⟩))
      go_meet
      case rel => exact ⟨_, (!t107), (by first | rfl | (simp; done) | (simp [*]; done)), H', ⟨by first | omega | exact Nat.le_refl _⟩, ⟨by (with_reducible repeat (first | refine blk_drewN ?_ _ | refine blk_drew ?_ | refine blk_alloc ?_ _)); exact BK103.out⟩, ⟨by (with_reducible repeat (first | refine blk_drewN ?_ _ | refine blk_drew ?_ | refine blk_alloc ?_ _)); exact BK104.out⟩, ⟨by repeat (first | (with_reducible first | exact HB.out | apply below_alloc | apply pw_below_drewN | apply below_drew1 | refine below_set ?_ GE103.out | refine below_set ?_ GE104.out) | exact HB.out)⟩⟩
     ·
      replace c16 := Bool.eq_false_iff.mpr c16
      subst c16
      have H1 : (task_may.j0 k true l0_0 a0_1 a0_2 a1_0 a1_1 a1_2 a1_3 a1_4) = some r := by rw [if_neg (show ¬ (false = true) by decide)] at H; exact H
      clear H
      have H := H1
      clear H1
      have H' := Aside0.mk H
      clear H
      have hnb21 := NB104_103.out
      have hnc21 := NB103_104.out
      have hcz22_0 : w5.cell? ⟨gb104, 0, none⟩ = some (.int .u8 a1_0) := ck_ BK104 0
      have hcz22_1 : w5.cell? ⟨gb104, 1, none⟩ = some (.int .i64 a1_1) := ck_ BK104 1
      have hcz22_2 : w5.cell? ⟨gb104, 2, none⟩ = some (.int .i64 a1_2) := ck_ BK104 2
      have hcz22_3 : w5.cell? ⟨gb104, 3, none⟩ = some (.int .i64 a1_3) := ck_ BK104 3
      have hcz22_4 : w5.cell? ⟨gb104, 4, none⟩ = some (.int .i64 a1_4) := ck_ BK104 4
      have hfz22_0 := blk_frozen BK104.out 0
      have hfz22_1 := blk_frozen BK104.out 1
      have hfz22_2 := blk_frozen BK104.out 2
      have hfz22_3 := blk_frozen BK104.out 3
      have hfz22_4 := blk_frozen BK104.out 4
      have hcz23_0 : w5.cell? ⟨gb103, 0, none⟩ = some (.slice A0_0 l0_0.length c0_0) := ck_ BK103 0
      have hcz23_1 : w5.cell? ⟨gb103, 1, none⟩ = some (.int .i64 a0_1) := ck_ BK103 1
      have hcz23_2 : w5.cell? ⟨gb103, 2, none⟩ = some (.int .i64 a0_2) := ck_ BK103 2
      have hfz23_0 := blk_frozen BK103.out 0
      have hfz23_1 := blk_frozen BK103.out 1
      have hfz23_2 := blk_frozen BK103.out 2
      go_wp2_with (first | (go_at_call 36; (with_reducible refine (task_moment.calls a1_2 true _ A13.out).mono ?_); rintro e w' ⟨rfl, ⟨nd, rfl⟩⟩) | (go_at_call 39; (with_reducible refine (task_count.calls a1_3 false _ A15.out).mono ?_); rintro e w' ⟨rfl, ⟨nd, rfl⟩⟩))
      go_meet
      case rel => exact ⟨_, (true), (by first | rfl | (simp; done) | (simp [*]; done)), H', ⟨by first | omega | exact Nat.le_refl _⟩, ⟨by (with_reducible repeat (first | refine blk_drewN ?_ _ | refine blk_drew ?_ | refine blk_alloc ?_ _)); exact BK103.out⟩, ⟨by (with_reducible repeat (first | refine blk_drewN ?_ _ | refine blk_drew ?_ | refine blk_alloc ?_ _)); exact BK104.out⟩, ⟨by repeat (first | (with_reducible first | exact HB.out | apply below_alloc | apply pw_below_drewN | apply below_drew1 | refine below_set ?_ GE103.out | refine below_set ?_ GE104.out) | exact HB.out)⟩⟩
    ·
     replace c14 := Bool.eq_false_iff.mpr c14
     subst c14
     have H1 : (task_may.j0 k true l0_0 a0_1 a0_2 a1_0 a1_1 a1_2 a1_3 a1_4) = some r := by rw [if_neg (show ¬ (false = true) by decide)] at H; exact H
     clear H
     have H := H1
     clear H1
     have H' := Aside0.mk H
     clear H
     have hnb24 := NB104_103.out
     have hnc24 := NB103_104.out
     have hcz25_0 : w5.cell? ⟨gb104, 0, none⟩ = some (.int .u8 a1_0) := ck_ BK104 0
     have hcz25_1 : w5.cell? ⟨gb104, 1, none⟩ = some (.int .i64 a1_1) := ck_ BK104 1
     have hcz25_2 : w5.cell? ⟨gb104, 2, none⟩ = some (.int .i64 a1_2) := ck_ BK104 2
     have hcz25_3 : w5.cell? ⟨gb104, 3, none⟩ = some (.int .i64 a1_3) := ck_ BK104 3
     have hcz25_4 : w5.cell? ⟨gb104, 4, none⟩ = some (.int .i64 a1_4) := ck_ BK104 4
     have hfz25_0 := blk_frozen BK104.out 0
     have hfz25_1 := blk_frozen BK104.out 1
     have hfz25_2 := blk_frozen BK104.out 2
     have hfz25_3 := blk_frozen BK104.out 3
     have hfz25_4 := blk_frozen BK104.out 4
     have hcz26_0 : w5.cell? ⟨gb103, 0, none⟩ = some (.slice A0_0 l0_0.length c0_0) := ck_ BK103 0
     have hcz26_1 : w5.cell? ⟨gb103, 1, none⟩ = some (.int .i64 a0_1) := ck_ BK103 1
     have hcz26_2 : w5.cell? ⟨gb103, 2, none⟩ = some (.int .i64 a0_2) := ck_ BK103 2
     have hfz26_0 := blk_frozen BK103.out 0
     have hfz26_1 := blk_frozen BK103.out 1
     have hfz26_2 := blk_frozen BK103.out 2
     go_wp2_with (first | (go_at_call 36; (with_reducible refine (task_moment.calls a1_2 false _ A13.out).mono ?_); rintro e w' ⟨rfl, ⟨nd, rfl⟩⟩))
     go_meet
     case rel => exact ⟨_, (true), (by first | rfl | (simp; done) | (simp [*]; done)), H', ⟨by first | omega | exact Nat.le_refl _⟩, ⟨by (with_reducible repeat (first | refine blk_drewN ?_ _ | refine blk_drew ?_ | refine blk_alloc ?_ _)); exact BK103.out⟩, ⟨by (with_reducible repeat (first | refine blk_drewN ?_ _ | refine blk_drew ?_ | refine blk_alloc ?_ _)); exact BK104.out⟩, ⟨by repeat (first | (with_reducible first | exact HB.out | apply below_alloc | apply pw_below_drewN | apply below_drew1 | refine below_set ?_ GE103.out | refine below_set ?_ GE104.out) | exact HB.out)⟩⟩
 case rest =>
  clear HC3
  try clear c1
  try clear c2
  try clear p2
  try clear c3
  try clear c6
  try clear c6b0
  try clear c7
  try clear c9
  try clear c9b0
  try clear c10
  try clear c14
  try clear c16
  try clear c18
  try clear c21
  try clear c24
  try clear hcz11_0
  try clear hcz11_1
  try clear hcz11_2
  try clear hcz11_3
  try clear hcz11_4
  try clear hcz12_0
  try clear hcz12_1
  try clear hcz12_2
  try clear hcz19_0
  try clear hcz19_1
  try clear hcz19_2
  try clear hcz19_3
  try clear hcz19_4
  try clear hcz20_0
  try clear hcz20_1
  try clear hcz20_2
  try clear hcz22_0
  try clear hcz22_1
  try clear hcz22_2
  try clear hcz22_3
  try clear hcz22_4
  try clear hcz23_0
  try clear hcz23_1
  try clear hcz23_2
  try clear hcz25_0
  try clear hcz25_1
  try clear hcz25_2
  try clear hcz25_3
  try clear hcz25_4
  try clear hcz26_0
  try clear hcz26_1
  try clear hcz26_2
  try clear hcz8_0
  try clear hcz8_1
  try clear hcz8_2
  try clear hcz8_3
  try clear hcz8_4
  try clear hfz11_0
  try clear hfz11_1
  try clear hfz11_2
  try clear hfz11_3
  try clear hfz11_4
  try clear hfz12_0
  try clear hfz12_1
  try clear hfz12_2
  try clear hfz19_0
  try clear hfz19_1
  try clear hfz19_2
  try clear hfz19_3
  try clear hfz19_4
  try clear hfz20_0
  try clear hfz20_1
  try clear hfz20_2
  try clear hfz22_0
  try clear hfz22_1
  try clear hfz22_2
  try clear hfz22_3
  try clear hfz22_4
  try clear hfz23_0
  try clear hfz23_1
  try clear hfz23_2
  try clear hfz25_0
  try clear hfz25_1
  try clear hfz25_2
  try clear hfz25_3
  try clear hfz25_4
  try clear hfz26_0
  try clear hfz26_1
  try clear hfz26_2
  try clear hfz8_0
  try clear hfz8_1
  try clear hfz8_2
  try clear hfz8_3
  try clear hfz8_4
  obtain ⟨kq, x33_2, rfl, HA, HJ2, BK103, BK104, HB⟩ := hcut
  cases kq with
  | zero => exact absurd HA.out (by simp [task_may.j0])
  | succ kj2 =>
   have H := HA.out
   clear HA
   simp only [task_may.j0] at H
   by_cases c27 : x33_2 = true
   ·
    subst c27
    have H1 : (some false) = some r := by rw [if_pos rfl] at H; exact H
    clear H
    have H := H1
    clear H1
    obtain rfl := Option.some.inj H
    go_wp2
    go_ret
    exact ⟨by first | rfl | (simp [errW_none, errW_some] <;> rfl) | (simp [*, errW_none, errW_some] <;> rfl) | exact ret_ie _ | (simp [*, errW_none, errW_some, bne]; done), by repeat (first | (with_reducible first | exact HB.out | apply below_alloc | apply pw_below_drewN | apply below_drew1 | refine below_set ?_ GE103.out | refine below_set ?_ GE104.out) | exact HB.out)⟩
   ·
    replace c27 := Bool.eq_false_iff.mpr c27
    subst c27
    have H1 : (if a1_2 = 0 then (if a1_3 = 0 then (task_may.j1 kj2 (a1_4 == 0) l0_0 a0_1 a0_2 a1_0 a1_1 a1_2 a1_3 a1_4) else (task_may.j1 kj2 false l0_0 a0_1 a0_2 a1_0 a1_1 a1_2 a1_3 a1_4)) else (task_may.j1 kj2 false l0_0 a0_1 a0_2 a1_0 a1_1 a1_2 a1_3 a1_4)) = some r := by rw [if_neg (show ¬ (false = true) by decide)] at H; exact H
    clear H
    have H := H1
    clear H1
    have HC28 := Aside0.mk H
    clear H
    go_upto_region 3 with (fail)
    go_cut [5] (fun v5 wc => ∃ (kq : Nat) (x5_27 : Bool), v5 = .bool x5_27 ∧ Aside0 (task_may.j1 kq x5_27 l0_0 a0_1 a0_2 a1_0 a1_1 a1_2 a1_3 a1_4 = some r) ∧ Aside0 (kq ≤ kj2) ∧ Aside0 (wc.heap[gb103]? = some (.cells #[(.slice A0_0 l0_0.length c0_0), .int .i64 a0_1, .int .i64 a0_2] 24 (0, 0))) ∧ Aside0 (wc.heap[gb104]? = some (.cells #[.int .u8 a1_0, .int .i64 a1_1, .int .i64 a1_2, .int .i64 a1_3, .int .i64 a1_4] 31 (0, 0))) ∧ Aside0 (Below w.heap.size w wc))
    case first =>
     have H := HC28.out
     clear HC28
     by_cases c29 : a1_2 = 0
     ·
      rw [if_pos c29] at H
      have c29b0 : (a1_2 == 0) = true := beq_iff_eq.mpr c29
      have c29b1 : (a1_2 != 0) = false := bne_eq_false_iff_eq.mpr c29
      clear c29
      (first | rw [c29b0] | (simp only [i64_w, i32_w]; rw [c29b0]) | skip)
      by_cases c30 : a1_3 = 0
      ·
       rw [if_pos c30] at H
       have c30b0 : (a1_3 == 0) = true := beq_iff_eq.mpr c30
       have c30b1 : (a1_3 != 0) = false := bne_eq_false_iff_eq.mpr c30
       clear c30
       have H' := Aside0.mk H
       clear H
       have hcz32_0 : wc.cell? ⟨gb104, 0, none⟩ = some (.int .u8 a1_0) := ck_ BK104 0
       have hcz32_1 : wc.cell? ⟨gb104, 1, none⟩ = some (.int .i64 a1_1) := ck_ BK104 1
       have hcz32_2 : wc.cell? ⟨gb104, 2, none⟩ = some (.int .i64 a1_2) := ck_ BK104 2
       have hcz32_3 : wc.cell? ⟨gb104, 3, none⟩ = some (.int .i64 a1_3) := ck_ BK104 3
       have hcz32_4 : wc.cell? ⟨gb104, 4, none⟩ = some (.int .i64 a1_4) := ck_ BK104 4
       have hfz32_0 := blk_frozen BK104.out 0
       have hfz32_1 := blk_frozen BK104.out 1
       have hfz32_2 := blk_frozen BK104.out 2
       have hfz32_3 := blk_frozen BK104.out 3
       have hfz32_4 := blk_frozen BK104.out 4
       go_wp2
       go_meet
       case rel => exact ⟨_, ((a1_4 == 0)), (by first | rfl | (simp; done) | (simp [*]; done)), H', ⟨by have := HJ2.out; first | omega | exact Nat.le_refl _⟩, ⟨by (with_reducible repeat (first | refine blk_drewN ?_ _ | refine blk_drew ?_ | refine blk_alloc ?_ _)); exact BK103.out⟩, ⟨by (with_reducible repeat (first | refine blk_drewN ?_ _ | refine blk_drew ?_ | refine blk_alloc ?_ _)); exact BK104.out⟩, ⟨by repeat (first | (with_reducible first | exact HB.out | apply below_alloc | apply pw_below_drewN | apply below_drew1 | refine below_set ?_ GE103.out | refine below_set ?_ GE104.out) | exact HB.out)⟩⟩
      ·
       rw [if_neg c30] at H
       have c30b0 : (a1_3 == 0) = false := beq_eq_false_iff_ne.mpr c30
       have c30b1 : (a1_3 != 0) = true := bne_iff_ne.mpr c30
       have H' := Aside0.mk H
       clear H
       have hcz34_0 : wc.cell? ⟨gb104, 0, none⟩ = some (.int .u8 a1_0) := ck_ BK104 0
       have hcz34_1 : wc.cell? ⟨gb104, 1, none⟩ = some (.int .i64 a1_1) := ck_ BK104 1
       have hcz34_2 : wc.cell? ⟨gb104, 2, none⟩ = some (.int .i64 a1_2) := ck_ BK104 2
       have hcz34_3 : wc.cell? ⟨gb104, 3, none⟩ = some (.int .i64 a1_3) := ck_ BK104 3
       have hcz34_4 : wc.cell? ⟨gb104, 4, none⟩ = some (.int .i64 a1_4) := ck_ BK104 4
       have hfz34_0 := blk_frozen BK104.out 0
       have hfz34_1 := blk_frozen BK104.out 1
       have hfz34_2 := blk_frozen BK104.out 2
       have hfz34_3 := blk_frozen BK104.out 3
       have hfz34_4 := blk_frozen BK104.out 4
       go_wp2
       go_meet
       case rel => exact ⟨_, (false), (by first | rfl | (simp; done) | (simp [*]; done)), H', ⟨by have := HJ2.out; first | omega | exact Nat.le_refl _⟩, ⟨by (with_reducible repeat (first | refine blk_drewN ?_ _ | refine blk_drew ?_ | refine blk_alloc ?_ _)); exact BK103.out⟩, ⟨by (with_reducible repeat (first | refine blk_drewN ?_ _ | refine blk_drew ?_ | refine blk_alloc ?_ _)); exact BK104.out⟩, ⟨by repeat (first | (with_reducible first | exact HB.out | apply below_alloc | apply pw_below_drewN | apply below_drew1 | refine below_set ?_ GE103.out | refine below_set ?_ GE104.out) | exact HB.out)⟩⟩
     ·
      rw [if_neg c29] at H
      have c29b0 : (a1_2 == 0) = false := beq_eq_false_iff_ne.mpr c29
      have c29b1 : (a1_2 != 0) = true := bne_iff_ne.mpr c29
      (first | rw [c29b0] | (simp only [i64_w, i32_w]; rw [c29b0]) | skip)
      have H' := Aside0.mk H
      clear H
      have hcz36_0 : wc.cell? ⟨gb104, 0, none⟩ = some (.int .u8 a1_0) := ck_ BK104 0
      have hcz36_1 : wc.cell? ⟨gb104, 1, none⟩ = some (.int .i64 a1_1) := ck_ BK104 1
      have hcz36_2 : wc.cell? ⟨gb104, 2, none⟩ = some (.int .i64 a1_2) := ck_ BK104 2
      have hcz36_3 : wc.cell? ⟨gb104, 3, none⟩ = some (.int .i64 a1_3) := ck_ BK104 3
      have hcz36_4 : wc.cell? ⟨gb104, 4, none⟩ = some (.int .i64 a1_4) := ck_ BK104 4
      have hfz36_0 := blk_frozen BK104.out 0
      have hfz36_1 := blk_frozen BK104.out 1
      have hfz36_2 := blk_frozen BK104.out 2
      have hfz36_3 := blk_frozen BK104.out 3
      have hfz36_4 := blk_frozen BK104.out 4
      go_wp2
      go_meet
      case rel => exact ⟨_, (false), (by first | rfl | (simp; done) | (simp [*]; done)), H', ⟨by have := HJ2.out; first | omega | exact Nat.le_refl _⟩, ⟨by (with_reducible repeat (first | refine blk_drewN ?_ _ | refine blk_drew ?_ | refine blk_alloc ?_ _)); exact BK103.out⟩, ⟨by (with_reducible repeat (first | refine blk_drewN ?_ _ | refine blk_drew ?_ | refine blk_alloc ?_ _)); exact BK104.out⟩, ⟨by repeat (first | (with_reducible first | exact HB.out | apply below_alloc | apply pw_below_drewN | apply below_drew1 | refine below_set ?_ GE103.out | refine below_set ?_ GE104.out) | exact HB.out)⟩⟩
    case rest =>
     clear HC28
     try clear c1
     try clear c2
     try clear p2
     try clear c3
     try clear c6
     try clear c6b0
     try clear c7
     try clear c9
     try clear c9b0
     try clear c10
     try clear c14
     try clear c16
     try clear c18
     try clear c21
     try clear c24
     try clear c27
     try clear c29
     try clear c29b0
     try clear c29b1
     try clear c30
     try clear c30b0
     try clear c30b1
     try clear c31
     try clear c33
     try clear c34
     try clear c35
     try clear hcz11_0
     try clear hcz11_1
     try clear hcz11_2
     try clear hcz11_3
     try clear hcz11_4
     try clear hcz12_0
     try clear hcz12_1
     try clear hcz12_2
     try clear hcz19_0
     try clear hcz19_1
     try clear hcz19_2
     try clear hcz19_3
     try clear hcz19_4
     try clear hcz20_0
     try clear hcz20_1
     try clear hcz20_2
     try clear hcz22_0
     try clear hcz22_1
     try clear hcz22_2
     try clear hcz22_3
     try clear hcz22_4
     try clear hcz23_0
     try clear hcz23_1
     try clear hcz23_2
     try clear hcz25_0
     try clear hcz25_1
     try clear hcz25_2
     try clear hcz25_3
     try clear hcz25_4
     try clear hcz26_0
     try clear hcz26_1
     try clear hcz26_2
     try clear hcz32_0
     try clear hcz32_1
     try clear hcz32_2
     try clear hcz32_3
     try clear hcz32_4
     try clear hcz34_0
     try clear hcz34_1
     try clear hcz34_2
     try clear hcz34_3
     try clear hcz34_4
     try clear hcz36_0
     try clear hcz36_1
     try clear hcz36_2
     try clear hcz36_3
     try clear hcz36_4
     try clear hcz8_0
     try clear hcz8_1
     try clear hcz8_2
     try clear hcz8_3
     try clear hcz8_4
     try clear hfz11_0
     try clear hfz11_1
     try clear hfz11_2
     try clear hfz11_3
     try clear hfz11_4
     try clear hfz12_0
     try clear hfz12_1
     try clear hfz12_2
     try clear hfz19_0
     try clear hfz19_1
     try clear hfz19_2
     try clear hfz19_3
     try clear hfz19_4
     try clear hfz20_0
     try clear hfz20_1
     try clear hfz20_2
     try clear hfz22_0
     try clear hfz22_1
     try clear hfz22_2
     try clear hfz22_3
     try clear hfz22_4
     try clear hfz23_0
     try clear hfz23_1
     try clear hfz23_2
     try clear hfz25_0
     try clear hfz25_1
     try clear hfz25_2
     try clear hfz25_3
     try clear hfz25_4
     try clear hfz26_0
     try clear hfz26_1
     try clear hfz26_2
     try clear hfz32_0
     try clear hfz32_1
     try clear hfz32_2
     try clear hfz32_3
     try clear hfz32_4
     try clear hfz34_0
     try clear hfz34_1
     try clear hfz34_2
     try clear hfz34_3
     try clear hfz34_4
     try clear hfz36_0
     try clear hfz36_1
     try clear hfz36_2
     try clear hfz36_3
     try clear hfz36_4
     try clear hfz8_0
     try clear hfz8_1
     try clear hfz8_2
     try clear hfz8_3
     try clear hfz8_4
     try clear p2
     obtain ⟨kq, x5_27, rfl, HA, HJ27, BK103, BK104, HB⟩ := hcut
     cases kq with
     | zero => exact absurd HA.out (by simp [task_may.j1])
     | succ kj27 =>
      have H := HA.out
      clear HA
      simp only [task_may.j1] at H
      by_cases c37 : a1_0 = 0
      ·
       rw [if_pos c37] at H
       have c37b0 : (a1_0 == 0) = true := beq_iff_eq.mpr c37
       have c37b1 : (a1_0 != 0) = false := bne_eq_false_iff_eq.mpr c37
       clear c37
       by_cases c38 : a1_1 = 0
       ·
        rw [if_pos c38] at H
        have c38b0 : (a1_1 == 0) = true := beq_iff_eq.mpr c38
        have c38b1 : (a1_1 != 0) = false := bne_eq_false_iff_eq.mpr c38
        clear c38
        obtain rfl := Option.some.inj H
        have hcz40_0 : wc.cell? ⟨gb104, 0, none⟩ = some (.int .u8 a1_0) := ck_ BK104 0
        have hcz40_1 : wc.cell? ⟨gb104, 1, none⟩ = some (.int .i64 a1_1) := ck_ BK104 1
        have hcz40_2 : wc.cell? ⟨gb104, 2, none⟩ = some (.int .i64 a1_2) := ck_ BK104 2
        have hcz40_3 : wc.cell? ⟨gb104, 3, none⟩ = some (.int .i64 a1_3) := ck_ BK104 3
        have hcz40_4 : wc.cell? ⟨gb104, 4, none⟩ = some (.int .i64 a1_4) := ck_ BK104 4
        have hfz40_0 := blk_frozen BK104.out 0
        have hfz40_1 := blk_frozen BK104.out 1
        have hfz40_2 := blk_frozen BK104.out 2
        have hfz40_3 := blk_frozen BK104.out 3
        have hfz40_4 := blk_frozen BK104.out 4
        go_wp2
        go_ret
        exact ⟨by first | rfl | (simp [errW_none, errW_some] <;> rfl) | (simp [*, errW_none, errW_some] <;> rfl) | exact ret_ie _ | (simp [*, errW_none, errW_some, bne]; done), by repeat (first | (with_reducible first | exact HB.out | apply below_alloc | apply pw_below_drewN | apply below_drew1 | refine below_set ?_ GE103.out | refine below_set ?_ GE104.out) | exact HB.out)⟩
       ·
        rw [if_neg c38] at H
        have c38b0 : (a1_1 == 0) = false := beq_eq_false_iff_ne.mpr c38
        have c38b1 : (a1_1 != 0) = true := bne_iff_ne.mpr c38
        obtain rfl := Option.some.inj H
        have hcz42_0 : wc.cell? ⟨gb104, 0, none⟩ = some (.int .u8 a1_0) := ck_ BK104 0
        have hcz42_1 : wc.cell? ⟨gb104, 1, none⟩ = some (.int .i64 a1_1) := ck_ BK104 1
        have hcz42_2 : wc.cell? ⟨gb104, 2, none⟩ = some (.int .i64 a1_2) := ck_ BK104 2
        have hcz42_3 : wc.cell? ⟨gb104, 3, none⟩ = some (.int .i64 a1_3) := ck_ BK104 3
        have hcz42_4 : wc.cell? ⟨gb104, 4, none⟩ = some (.int .i64 a1_4) := ck_ BK104 4
        have hfz42_0 := blk_frozen BK104.out 0
        have hfz42_1 := blk_frozen BK104.out 1
        have hfz42_2 := blk_frozen BK104.out 2
        have hfz42_3 := blk_frozen BK104.out 3
        have hfz42_4 := blk_frozen BK104.out 4
        go_wp2
        go_ret
        exact ⟨by first | rfl | (simp [errW_none, errW_some] <;> rfl) | (simp [*, errW_none, errW_some] <;> rfl) | exact ret_ie _ | (simp [*, errW_none, errW_some, bne]; done), by repeat (first | (with_reducible first | exact HB.out | apply below_alloc | apply pw_below_drewN | apply below_drew1 | refine below_set ?_ GE103.out | refine below_set ?_ GE104.out) | exact HB.out)⟩
      ·
       rw [if_neg c37] at H
       have c37b0 : (a1_0 == 0) = false := beq_eq_false_iff_ne.mpr c37
       have c37b1 : (a1_0 != 0) = true := bne_iff_ne.mpr c37
       by_cases c43 : a1_0 = 1
       ·
        rw [if_pos c43] at H
        have c43b0 : (a1_0 == 1) = true := beq_iff_eq.mpr c43
        have c43b1 : (a1_0 != 1) = false := bne_eq_false_iff_eq.mpr c43
        clear c43
        by_cases c44 : a1_1 < a0_1
        ·
         rw [if_pos c44] at H
         have c44b0 : decide (a1_1 < a0_1) = true := decide_eq_true c44
         clear c44
         by_cases c45 : a1_2 = 0
         ·
          rw [if_pos c45] at H
          have c45b0 : (a1_2 == 0) = true := beq_iff_eq.mpr c45
          have c45b1 : (a1_2 != 0) = false := bne_eq_false_iff_eq.mpr c45
          clear c45
          obtain rfl := Option.some.inj H
          have hnb46 := NB104_103.out
          have hnc46 := NB103_104.out
          have hcz47_0 : wc.cell? ⟨gb104, 0, none⟩ = some (.int .u8 a1_0) := ck_ BK104 0
          have hcz47_1 : wc.cell? ⟨gb104, 1, none⟩ = some (.int .i64 a1_1) := ck_ BK104 1
          have hcz47_2 : wc.cell? ⟨gb104, 2, none⟩ = some (.int .i64 a1_2) := ck_ BK104 2
          have hcz47_3 : wc.cell? ⟨gb104, 3, none⟩ = some (.int .i64 a1_3) := ck_ BK104 3
          have hcz47_4 : wc.cell? ⟨gb104, 4, none⟩ = some (.int .i64 a1_4) := ck_ BK104 4
          have hfz47_0 := blk_frozen BK104.out 0
          have hfz47_1 := blk_frozen BK104.out 1
          have hfz47_2 := blk_frozen BK104.out 2
          have hfz47_3 := blk_frozen BK104.out 3
          have hfz47_4 := blk_frozen BK104.out 4
          have hcz48_0 : wc.cell? ⟨gb103, 0, none⟩ = some (.slice A0_0 l0_0.length c0_0) := ck_ BK103 0
          have hcz48_1 : wc.cell? ⟨gb103, 1, none⟩ = some (.int .i64 a0_1) := ck_ BK103 1
          have hcz48_2 : wc.cell? ⟨gb103, 2, none⟩ = some (.int .i64 a0_2) := ck_ BK103 2
          have hfz48_0 := blk_frozen BK103.out 0
          have hfz48_1 := blk_frozen BK103.out 1
          have hfz48_2 := blk_frozen BK103.out 2
          go_wp2
          go_ret
          exact ⟨by first | rfl | (simp [errW_none, errW_some] <;> rfl) | (simp [*, errW_none, errW_some] <;> rfl) | exact ret_ie _ | (simp [*, errW_none, errW_some, bne]; done), by repeat (first | (with_reducible first | exact HB.out | apply below_alloc | apply pw_below_drewN | apply below_drew1 | refine below_set ?_ GE103.out | refine below_set ?_ GE104.out) | exact HB.out)⟩
         ·
          rw [if_neg c45] at H
          have c45b0 : (a1_2 == 0) = false := beq_eq_false_iff_ne.mpr c45
          have c45b1 : (a1_2 != 0) = true := bne_iff_ne.mpr c45
          obtain rfl := Option.some.inj H
          have hnb49 := NB104_103.out
          have hnc49 := NB103_104.out
          have hcz50_0 : wc.cell? ⟨gb104, 0, none⟩ = some (.int .u8 a1_0) := ck_ BK104 0
          have hcz50_1 : wc.cell? ⟨gb104, 1, none⟩ = some (.int .i64 a1_1) := ck_ BK104 1
          have hcz50_2 : wc.cell? ⟨gb104, 2, none⟩ = some (.int .i64 a1_2) := ck_ BK104 2
          have hcz50_3 : wc.cell? ⟨gb104, 3, none⟩ = some (.int .i64 a1_3) := ck_ BK104 3
          have hcz50_4 : wc.cell? ⟨gb104, 4, none⟩ = some (.int .i64 a1_4) := ck_ BK104 4
          have hfz50_0 := blk_frozen BK104.out 0
          have hfz50_1 := blk_frozen BK104.out 1
          have hfz50_2 := blk_frozen BK104.out 2
          have hfz50_3 := blk_frozen BK104.out 3
          have hfz50_4 := blk_frozen BK104.out 4
          have hcz51_0 : wc.cell? ⟨gb103, 0, none⟩ = some (.slice A0_0 l0_0.length c0_0) := ck_ BK103 0
          have hcz51_1 : wc.cell? ⟨gb103, 1, none⟩ = some (.int .i64 a0_1) := ck_ BK103 1
          have hcz51_2 : wc.cell? ⟨gb103, 2, none⟩ = some (.int .i64 a0_2) := ck_ BK103 2
          have hfz51_0 := blk_frozen BK103.out 0
          have hfz51_1 := blk_frozen BK103.out 1
          have hfz51_2 := blk_frozen BK103.out 2
          go_wp2
          go_ret
          exact ⟨by first | rfl | (simp [errW_none, errW_some] <;> rfl) | (simp [*, errW_none, errW_some] <;> rfl) | exact ret_ie _ | (simp [*, errW_none, errW_some, bne]; done), by repeat (first | (with_reducible first | exact HB.out | apply below_alloc | apply pw_below_drewN | apply below_drew1 | refine below_set ?_ GE103.out | refine below_set ?_ GE104.out) | exact HB.out)⟩
        ·
         rw [if_neg c44] at H
         have c44b0 : decide (a1_1 < a0_1) = false := decide_eq_false c44
         clear c44
         obtain rfl := Option.some.inj H
         have hnb52 := NB104_103.out
         have hnc52 := NB103_104.out
         have hcz53_0 : wc.cell? ⟨gb104, 0, none⟩ = some (.int .u8 a1_0) := ck_ BK104 0
         have hcz53_1 : wc.cell? ⟨gb104, 1, none⟩ = some (.int .i64 a1_1) := ck_ BK104 1
         have hcz53_2 : wc.cell? ⟨gb104, 2, none⟩ = some (.int .i64 a1_2) := ck_ BK104 2
         have hcz53_3 : wc.cell? ⟨gb104, 3, none⟩ = some (.int .i64 a1_3) := ck_ BK104 3
         have hcz53_4 : wc.cell? ⟨gb104, 4, none⟩ = some (.int .i64 a1_4) := ck_ BK104 4
         have hfz53_0 := blk_frozen BK104.out 0
         have hfz53_1 := blk_frozen BK104.out 1
         have hfz53_2 := blk_frozen BK104.out 2
         have hfz53_3 := blk_frozen BK104.out 3
         have hfz53_4 := blk_frozen BK104.out 4
         have hcz54_0 : wc.cell? ⟨gb103, 0, none⟩ = some (.slice A0_0 l0_0.length c0_0) := ck_ BK103 0
         have hcz54_1 : wc.cell? ⟨gb103, 1, none⟩ = some (.int .i64 a0_1) := ck_ BK103 1
         have hcz54_2 : wc.cell? ⟨gb103, 2, none⟩ = some (.int .i64 a0_2) := ck_ BK103 2
         have hfz54_0 := blk_frozen BK103.out 0
         have hfz54_1 := blk_frozen BK103.out 1
         have hfz54_2 := blk_frozen BK103.out 2
         go_wp2
         go_ret
         exact ⟨by first | rfl | (simp [errW_none, errW_some] <;> rfl) | (simp [*, errW_none, errW_some] <;> rfl) | exact ret_ie _ | (simp [*, errW_none, errW_some, bne]; done), by repeat (first | (with_reducible first | exact HB.out | apply below_alloc | apply pw_below_drewN | apply below_drew1 | refine below_set ?_ GE103.out | refine below_set ?_ GE104.out) | exact HB.out)⟩
       ·
        rw [if_neg c43] at H
        have c43b0 : (a1_0 == 1) = false := beq_eq_false_iff_ne.mpr c43
        have c43b1 : (a1_0 != 1) = true := bne_iff_ne.mpr c43
        by_cases c55 : a1_0 = 2
        ·
         rw [if_pos c55] at H
         have c55b0 : (a1_0 == 2) = true := beq_iff_eq.mpr c55
         have c55b1 : (a1_0 != 2) = false := bne_eq_false_iff_eq.mpr c55
         clear c55
         by_cases c56 : a1_1 ≥ 1
         ·
          rw [if_pos c56] at H
          have c56b0 : decide (1 ≤ a1_1) = true := decide_eq_true c56
          clear c56
          by_cases c57 : a1_3 ≥ 1
          ·
           rw [if_pos c57] at H
           have c57b0 : decide (1 ≤ a1_3) = true := decide_eq_true c57
           clear c57
           obtain rfl := Option.some.inj H
           have hcz59_0 : wc.cell? ⟨gb104, 0, none⟩ = some (.int .u8 a1_0) := ck_ BK104 0
           have hcz59_1 : wc.cell? ⟨gb104, 1, none⟩ = some (.int .i64 a1_1) := ck_ BK104 1
           have hcz59_2 : wc.cell? ⟨gb104, 2, none⟩ = some (.int .i64 a1_2) := ck_ BK104 2
           have hcz59_3 : wc.cell? ⟨gb104, 3, none⟩ = some (.int .i64 a1_3) := ck_ BK104 3
           have hcz59_4 : wc.cell? ⟨gb104, 4, none⟩ = some (.int .i64 a1_4) := ck_ BK104 4
           have hfz59_0 := blk_frozen BK104.out 0
           have hfz59_1 := blk_frozen BK104.out 1
           have hfz59_2 := blk_frozen BK104.out 2
           have hfz59_3 := blk_frozen BK104.out 3
           have hfz59_4 := blk_frozen BK104.out 4
           go_wp2
           go_ret
           exact ⟨by first | rfl | (simp [errW_none, errW_some] <;> rfl) | (simp [*, errW_none, errW_some] <;> rfl) | exact ret_ie _ | (simp [*, errW_none, errW_some, bne]; done), by repeat (first | (with_reducible first | exact HB.out | apply below_alloc | apply pw_below_drewN | apply below_drew1 | refine below_set ?_ GE103.out | refine below_set ?_ GE104.out) | exact HB.out)⟩
          ·
           rw [if_neg c57] at H
           have c57b0 : decide (1 ≤ a1_3) = false := decide_eq_false c57
           clear c57
           obtain rfl := Option.some.inj H
           have hcz61_0 : wc.cell? ⟨gb104, 0, none⟩ = some (.int .u8 a1_0) := ck_ BK104 0
           have hcz61_1 : wc.cell? ⟨gb104, 1, none⟩ = some (.int .i64 a1_1) := ck_ BK104 1
           have hcz61_2 : wc.cell? ⟨gb104, 2, none⟩ = some (.int .i64 a1_2) := ck_ BK104 2
           have hcz61_3 : wc.cell? ⟨gb104, 3, none⟩ = some (.int .i64 a1_3) := ck_ BK104 3
           have hcz61_4 : wc.cell? ⟨gb104, 4, none⟩ = some (.int .i64 a1_4) := ck_ BK104 4
           have hfz61_0 := blk_frozen BK104.out 0
           have hfz61_1 := blk_frozen BK104.out 1
           have hfz61_2 := blk_frozen BK104.out 2
           have hfz61_3 := blk_frozen BK104.out 3
           have hfz61_4 := blk_frozen BK104.out 4
           go_wp2
           go_ret
           exact ⟨by first | rfl | (simp [errW_none, errW_some] <;> rfl) | (simp [*, errW_none, errW_some] <;> rfl) | exact ret_ie _ | (simp [*, errW_none, errW_some, bne]; done), by repeat (first | (with_reducible first | exact HB.out | apply below_alloc | apply pw_below_drewN | apply below_drew1 | refine below_set ?_ GE103.out | refine below_set ?_ GE104.out) | exact HB.out)⟩
         ·
          rw [if_neg c56] at H
          have c56b0 : decide (1 ≤ a1_1) = false := decide_eq_false c56
          clear c56
          obtain rfl := Option.some.inj H
          have hcz63_0 : wc.cell? ⟨gb104, 0, none⟩ = some (.int .u8 a1_0) := ck_ BK104 0
          have hcz63_1 : wc.cell? ⟨gb104, 1, none⟩ = some (.int .i64 a1_1) := ck_ BK104 1
          have hcz63_2 : wc.cell? ⟨gb104, 2, none⟩ = some (.int .i64 a1_2) := ck_ BK104 2
          have hcz63_3 : wc.cell? ⟨gb104, 3, none⟩ = some (.int .i64 a1_3) := ck_ BK104 3
          have hcz63_4 : wc.cell? ⟨gb104, 4, none⟩ = some (.int .i64 a1_4) := ck_ BK104 4
          have hfz63_0 := blk_frozen BK104.out 0
          have hfz63_1 := blk_frozen BK104.out 1
          have hfz63_2 := blk_frozen BK104.out 2
          have hfz63_3 := blk_frozen BK104.out 3
          have hfz63_4 := blk_frozen BK104.out 4
          go_wp2
          go_ret
          exact ⟨by first | rfl | (simp [errW_none, errW_some] <;> rfl) | (simp [*, errW_none, errW_some] <;> rfl) | exact ret_ie _ | (simp [*, errW_none, errW_some, bne]; done), by repeat (first | (with_reducible first | exact HB.out | apply below_alloc | apply pw_below_drewN | apply below_drew1 | refine below_set ?_ GE103.out | refine below_set ?_ GE104.out) | exact HB.out)⟩
        ·
         rw [if_neg c55] at H
         have c55b0 : (a1_0 == 2) = false := beq_eq_false_iff_ne.mpr c55
         have c55b1 : (a1_0 != 2) = true := bne_iff_ne.mpr c55
         by_cases c64 : a1_0 = 3
         ·
          rw [if_pos c64] at H
          have c64b0 : (a1_0 == 3) = true := beq_iff_eq.mpr c64
          have c64b1 : (a1_0 != 3) = false := bne_eq_false_iff_eq.mpr c64
          clear c64
          by_cases c65 : a1_1 ≥ 1
          ·
           rw [if_pos c65] at H
           have c65b0 : decide (1 ≤ a1_1) = true := decide_eq_true c65
           clear c65
           by_cases c66 : a1_1 < a0_1
           ·
            rw [if_pos c66] at H
            have c66b0 : decide (a1_1 < a0_1) = true := decide_eq_true c66
            clear c66
            by_cases c67 : a1_3 = 0
            ·
             rw [if_pos c67] at H
             have c67b0 : (a1_3 == 0) = true := beq_iff_eq.mpr c67
             have c67b1 : (a1_3 != 0) = false := bne_eq_false_iff_eq.mpr c67
             clear c67
             obtain rfl := Option.some.inj H
             have hnb68 := NB104_103.out
             have hnc68 := NB103_104.out
             have hcz69_0 : wc.cell? ⟨gb104, 0, none⟩ = some (.int .u8 a1_0) := ck_ BK104 0
             have hcz69_1 : wc.cell? ⟨gb104, 1, none⟩ = some (.int .i64 a1_1) := ck_ BK104 1
             have hcz69_2 : wc.cell? ⟨gb104, 2, none⟩ = some (.int .i64 a1_2) := ck_ BK104 2
             have hcz69_3 : wc.cell? ⟨gb104, 3, none⟩ = some (.int .i64 a1_3) := ck_ BK104 3
             have hcz69_4 : wc.cell? ⟨gb104, 4, none⟩ = some (.int .i64 a1_4) := ck_ BK104 4
             have hfz69_0 := blk_frozen BK104.out 0
             have hfz69_1 := blk_frozen BK104.out 1
             have hfz69_2 := blk_frozen BK104.out 2
             have hfz69_3 := blk_frozen BK104.out 3
             have hfz69_4 := blk_frozen BK104.out 4
             have hcz70_0 : wc.cell? ⟨gb103, 0, none⟩ = some (.slice A0_0 l0_0.length c0_0) := ck_ BK103 0
             have hcz70_1 : wc.cell? ⟨gb103, 1, none⟩ = some (.int .i64 a0_1) := ck_ BK103 1
             have hcz70_2 : wc.cell? ⟨gb103, 2, none⟩ = some (.int .i64 a0_2) := ck_ BK103 2
             have hfz70_0 := blk_frozen BK103.out 0
             have hfz70_1 := blk_frozen BK103.out 1
             have hfz70_2 := blk_frozen BK103.out 2
             go_wp2
             go_ret
             exact ⟨by first | rfl | (simp [errW_none, errW_some] <;> rfl) | (simp [*, errW_none, errW_some] <;> rfl) | exact ret_ie _ | (simp [*, errW_none, errW_some, bne]; done), by repeat (first | (with_reducible first | exact HB.out | apply below_alloc | apply pw_below_drewN | apply below_drew1 | refine below_set ?_ GE103.out | refine below_set ?_ GE104.out) | exact HB.out)⟩
            ·
             rw [if_neg c67] at H
             have c67b0 : (a1_3 == 0) = false := beq_eq_false_iff_ne.mpr c67
             have c67b1 : (a1_3 != 0) = true := bne_iff_ne.mpr c67
             obtain rfl := Option.some.inj H
             have hnb71 := NB104_103.out
             have hnc71 := NB103_104.out
             have hcz72_0 : wc.cell? ⟨gb104, 0, none⟩ = some (.int .u8 a1_0) := ck_ BK104 0
             have hcz72_1 : wc.cell? ⟨gb104, 1, none⟩ = some (.int .i64 a1_1) := ck_ BK104 1
             have hcz72_2 : wc.cell? ⟨gb104, 2, none⟩ = some (.int .i64 a1_2) := ck_ BK104 2
             have hcz72_3 : wc.cell? ⟨gb104, 3, none⟩ = some (.int .i64 a1_3) := ck_ BK104 3
             have hcz72_4 : wc.cell? ⟨gb104, 4, none⟩ = some (.int .i64 a1_4) := ck_ BK104 4
             have hfz72_0 := blk_frozen BK104.out 0
             have hfz72_1 := blk_frozen BK104.out 1
             have hfz72_2 := blk_frozen BK104.out 2
             have hfz72_3 := blk_frozen BK104.out 3
             have hfz72_4 := blk_frozen BK104.out 4
             have hcz73_0 : wc.cell? ⟨gb103, 0, none⟩ = some (.slice A0_0 l0_0.length c0_0) := ck_ BK103 0
             have hcz73_1 : wc.cell? ⟨gb103, 1, none⟩ = some (.int .i64 a0_1) := ck_ BK103 1
             have hcz73_2 : wc.cell? ⟨gb103, 2, none⟩ = some (.int .i64 a0_2) := ck_ BK103 2
             have hfz73_0 := blk_frozen BK103.out 0
             have hfz73_1 := blk_frozen BK103.out 1
             have hfz73_2 := blk_frozen BK103.out 2
             go_wp2
             go_ret
             exact ⟨by first | rfl | (simp [errW_none, errW_some] <;> rfl) | (simp [*, errW_none, errW_some] <;> rfl) | exact ret_ie _ | (simp [*, errW_none, errW_some, bne]; done), by repeat (first | (with_reducible first | exact HB.out | apply below_alloc | apply pw_below_drewN | apply below_drew1 | refine below_set ?_ GE103.out | refine below_set ?_ GE104.out) | exact HB.out)⟩
           ·
            rw [if_neg c66] at H
            have c66b0 : decide (a1_1 < a0_1) = false := decide_eq_false c66
            clear c66
            obtain rfl := Option.some.inj H
            have hnb74 := NB104_103.out
            have hnc74 := NB103_104.out
            have hcz75_0 : wc.cell? ⟨gb104, 0, none⟩ = some (.int .u8 a1_0) := ck_ BK104 0
            have hcz75_1 : wc.cell? ⟨gb104, 1, none⟩ = some (.int .i64 a1_1) := ck_ BK104 1
            have hcz75_2 : wc.cell? ⟨gb104, 2, none⟩ = some (.int .i64 a1_2) := ck_ BK104 2
            have hcz75_3 : wc.cell? ⟨gb104, 3, none⟩ = some (.int .i64 a1_3) := ck_ BK104 3
            have hcz75_4 : wc.cell? ⟨gb104, 4, none⟩ = some (.int .i64 a1_4) := ck_ BK104 4
            have hfz75_0 := blk_frozen BK104.out 0
            have hfz75_1 := blk_frozen BK104.out 1
            have hfz75_2 := blk_frozen BK104.out 2
            have hfz75_3 := blk_frozen BK104.out 3
            have hfz75_4 := blk_frozen BK104.out 4
            have hcz76_0 : wc.cell? ⟨gb103, 0, none⟩ = some (.slice A0_0 l0_0.length c0_0) := ck_ BK103 0
            have hcz76_1 : wc.cell? ⟨gb103, 1, none⟩ = some (.int .i64 a0_1) := ck_ BK103 1
            have hcz76_2 : wc.cell? ⟨gb103, 2, none⟩ = some (.int .i64 a0_2) := ck_ BK103 2
            have hfz76_0 := blk_frozen BK103.out 0
            have hfz76_1 := blk_frozen BK103.out 1
            have hfz76_2 := blk_frozen BK103.out 2
            go_wp2
            go_ret
            exact ⟨by first | rfl | (simp [errW_none, errW_some] <;> rfl) | (simp [*, errW_none, errW_some] <;> rfl) | exact ret_ie _ | (simp [*, errW_none, errW_some, bne]; done), by repeat (first | (with_reducible first | exact HB.out | apply below_alloc | apply pw_below_drewN | apply below_drew1 | refine below_set ?_ GE103.out | refine below_set ?_ GE104.out) | exact HB.out)⟩
          ·
           rw [if_neg c65] at H
           have c65b0 : decide (1 ≤ a1_1) = false := decide_eq_false c65
           clear c65
           obtain rfl := Option.some.inj H
           have hcz78_0 : wc.cell? ⟨gb104, 0, none⟩ = some (.int .u8 a1_0) := ck_ BK104 0
           have hcz78_1 : wc.cell? ⟨gb104, 1, none⟩ = some (.int .i64 a1_1) := ck_ BK104 1
           have hcz78_2 : wc.cell? ⟨gb104, 2, none⟩ = some (.int .i64 a1_2) := ck_ BK104 2
           have hcz78_3 : wc.cell? ⟨gb104, 3, none⟩ = some (.int .i64 a1_3) := ck_ BK104 3
           have hcz78_4 : wc.cell? ⟨gb104, 4, none⟩ = some (.int .i64 a1_4) := ck_ BK104 4
           have hfz78_0 := blk_frozen BK104.out 0
           have hfz78_1 := blk_frozen BK104.out 1
           have hfz78_2 := blk_frozen BK104.out 2
           have hfz78_3 := blk_frozen BK104.out 3
           have hfz78_4 := blk_frozen BK104.out 4
           go_wp2
           go_ret
           exact ⟨by first | rfl | (simp [errW_none, errW_some] <;> rfl) | (simp [*, errW_none, errW_some] <;> rfl) | exact ret_ie _ | (simp [*, errW_none, errW_some, bne]; done), by repeat (first | (with_reducible first | exact HB.out | apply below_alloc | apply pw_below_drewN | apply below_drew1 | refine below_set ?_ GE103.out | refine below_set ?_ GE104.out) | exact HB.out)⟩
         ·
          rw [if_neg c64] at H
          have c64b0 : (a1_0 == 3) = false := beq_eq_false_iff_ne.mpr c64
          have c64b1 : (a1_0 != 3) = true := bne_iff_ne.mpr c64
          by_cases c79 : a1_0 = 4
          ·
           rw [if_pos c79] at H
           have c79b0 : (a1_0 == 4) = true := beq_iff_eq.mpr c79
           have c79b1 : (a1_0 != 4) = false := bne_eq_false_iff_eq.mpr c79
           clear c79
           by_cases c80 : a1_1 ≥ 1
           ·
            rw [if_pos c80] at H
            have c80b0 : decide (1 ≤ a1_1) = true := decide_eq_true c80
            clear c80
            obtain rfl := Option.some.inj H
            have hcz82_0 : wc.cell? ⟨gb104, 0, none⟩ = some (.int .u8 a1_0) := ck_ BK104 0
            have hcz82_1 : wc.cell? ⟨gb104, 1, none⟩ = some (.int .i64 a1_1) := ck_ BK104 1
            have hcz82_2 : wc.cell? ⟨gb104, 2, none⟩ = some (.int .i64 a1_2) := ck_ BK104 2
            have hcz82_3 : wc.cell? ⟨gb104, 3, none⟩ = some (.int .i64 a1_3) := ck_ BK104 3
            have hcz82_4 : wc.cell? ⟨gb104, 4, none⟩ = some (.int .i64 a1_4) := ck_ BK104 4
            have hfz82_0 := blk_frozen BK104.out 0
            have hfz82_1 := blk_frozen BK104.out 1
            have hfz82_2 := blk_frozen BK104.out 2
            have hfz82_3 := blk_frozen BK104.out 3
            have hfz82_4 := blk_frozen BK104.out 4
            go_wp2
            go_ret
            exact ⟨by first | rfl | (simp [errW_none, errW_some] <;> rfl) | (simp [*, errW_none, errW_some] <;> rfl) | exact ret_ie _ | (simp [*, errW_none, errW_some, bne]; done), by repeat (first | (with_reducible first | exact HB.out | apply below_alloc | apply pw_below_drewN | apply below_drew1 | refine below_set ?_ GE103.out | refine below_set ?_ GE104.out) | exact HB.out)⟩
           ·
            rw [if_neg c80] at H
            have c80b0 : decide (1 ≤ a1_1) = false := decide_eq_false c80
            clear c80
            obtain rfl := Option.some.inj H
            have hcz84_0 : wc.cell? ⟨gb104, 0, none⟩ = some (.int .u8 a1_0) := ck_ BK104 0
            have hcz84_1 : wc.cell? ⟨gb104, 1, none⟩ = some (.int .i64 a1_1) := ck_ BK104 1
            have hcz84_2 : wc.cell? ⟨gb104, 2, none⟩ = some (.int .i64 a1_2) := ck_ BK104 2
            have hcz84_3 : wc.cell? ⟨gb104, 3, none⟩ = some (.int .i64 a1_3) := ck_ BK104 3
            have hcz84_4 : wc.cell? ⟨gb104, 4, none⟩ = some (.int .i64 a1_4) := ck_ BK104 4
            have hfz84_0 := blk_frozen BK104.out 0
            have hfz84_1 := blk_frozen BK104.out 1
            have hfz84_2 := blk_frozen BK104.out 2
            have hfz84_3 := blk_frozen BK104.out 3
            have hfz84_4 := blk_frozen BK104.out 4
            go_wp2
            go_ret
            exact ⟨by first | rfl | (simp [errW_none, errW_some] <;> rfl) | (simp [*, errW_none, errW_some] <;> rfl) | exact ret_ie _ | (simp [*, errW_none, errW_some, bne]; done), by repeat (first | (with_reducible first | exact HB.out | apply below_alloc | apply pw_below_drewN | apply below_drew1 | refine below_set ?_ GE103.out | refine below_set ?_ GE104.out) | exact HB.out)⟩
          ·
           rw [if_neg c79] at H
           have c79b0 : (a1_0 == 4) = false := beq_eq_false_iff_ne.mpr c79
           have c79b1 : (a1_0 != 4) = true := bne_iff_ne.mpr c79
           by_cases c85 : a1_0 = 5
           ·
            rw [if_pos c85] at H
            have c85b0 : (a1_0 == 5) = true := beq_iff_eq.mpr c85
            have c85b1 : (a1_0 != 5) = false := bne_eq_false_iff_eq.mpr c85
            clear c85
            by_cases c86 : a1_1 = a0_1
            ·
             rw [if_pos c86] at H
             have c86b0 : (a1_1 == a0_1) = true := beq_iff_eq.mpr c86
             have c86b1 : (a1_1 != a0_1) = false := bne_eq_false_iff_eq.mpr c86
             clear c86
             obtain rfl := Option.some.inj H
             have hnb87 := NB104_103.out
             have hnc87 := NB103_104.out
             have hcz88_0 : wc.cell? ⟨gb104, 0, none⟩ = some (.int .u8 a1_0) := ck_ BK104 0
             have hcz88_1 : wc.cell? ⟨gb104, 1, none⟩ = some (.int .i64 a1_1) := ck_ BK104 1
             have hcz88_2 : wc.cell? ⟨gb104, 2, none⟩ = some (.int .i64 a1_2) := ck_ BK104 2
             have hcz88_3 : wc.cell? ⟨gb104, 3, none⟩ = some (.int .i64 a1_3) := ck_ BK104 3
             have hcz88_4 : wc.cell? ⟨gb104, 4, none⟩ = some (.int .i64 a1_4) := ck_ BK104 4
             have hfz88_0 := blk_frozen BK104.out 0
             have hfz88_1 := blk_frozen BK104.out 1
             have hfz88_2 := blk_frozen BK104.out 2
             have hfz88_3 := blk_frozen BK104.out 3
             have hfz88_4 := blk_frozen BK104.out 4
             have hcz89_0 : wc.cell? ⟨gb103, 0, none⟩ = some (.slice A0_0 l0_0.length c0_0) := ck_ BK103 0
             have hcz89_1 : wc.cell? ⟨gb103, 1, none⟩ = some (.int .i64 a0_1) := ck_ BK103 1
             have hcz89_2 : wc.cell? ⟨gb103, 2, none⟩ = some (.int .i64 a0_2) := ck_ BK103 2
             have hfz89_0 := blk_frozen BK103.out 0
             have hfz89_1 := blk_frozen BK103.out 1
             have hfz89_2 := blk_frozen BK103.out 2
             go_wp2
             go_ret
             exact ⟨by first | rfl | (simp [errW_none, errW_some] <;> rfl) | (simp [*, errW_none, errW_some] <;> rfl) | exact ret_ie _ | (simp [*, errW_none, errW_some, bne]; done), by repeat (first | (with_reducible first | exact HB.out | apply below_alloc | apply pw_below_drewN | apply below_drew1 | refine below_set ?_ GE103.out | refine below_set ?_ GE104.out) | exact HB.out)⟩
            ·
             rw [if_neg c86] at H
             have c86b0 : (a1_1 == a0_1) = false := beq_eq_false_iff_ne.mpr c86
             have c86b1 : (a1_1 != a0_1) = true := bne_iff_ne.mpr c86
             obtain rfl := Option.some.inj H
             have hnb90 := NB104_103.out
             have hnc90 := NB103_104.out
             have hcz91_0 : wc.cell? ⟨gb104, 0, none⟩ = some (.int .u8 a1_0) := ck_ BK104 0
             have hcz91_1 : wc.cell? ⟨gb104, 1, none⟩ = some (.int .i64 a1_1) := ck_ BK104 1
             have hcz91_2 : wc.cell? ⟨gb104, 2, none⟩ = some (.int .i64 a1_2) := ck_ BK104 2
             have hcz91_3 : wc.cell? ⟨gb104, 3, none⟩ = some (.int .i64 a1_3) := ck_ BK104 3
             have hcz91_4 : wc.cell? ⟨gb104, 4, none⟩ = some (.int .i64 a1_4) := ck_ BK104 4
             have hfz91_0 := blk_frozen BK104.out 0
             have hfz91_1 := blk_frozen BK104.out 1
             have hfz91_2 := blk_frozen BK104.out 2
             have hfz91_3 := blk_frozen BK104.out 3
             have hfz91_4 := blk_frozen BK104.out 4
             have hcz92_0 : wc.cell? ⟨gb103, 0, none⟩ = some (.slice A0_0 l0_0.length c0_0) := ck_ BK103 0
             have hcz92_1 : wc.cell? ⟨gb103, 1, none⟩ = some (.int .i64 a0_1) := ck_ BK103 1
             have hcz92_2 : wc.cell? ⟨gb103, 2, none⟩ = some (.int .i64 a0_2) := ck_ BK103 2
             have hfz92_0 := blk_frozen BK103.out 0
             have hfz92_1 := blk_frozen BK103.out 1
             have hfz92_2 := blk_frozen BK103.out 2
             go_wp2
             go_ret
             exact ⟨by first | rfl | (simp [errW_none, errW_some] <;> rfl) | (simp [*, errW_none, errW_some] <;> rfl) | exact ret_ie _ | (simp [*, errW_none, errW_some, bne]; done), by repeat (first | (with_reducible first | exact HB.out | apply below_alloc | apply pw_below_drewN | apply below_drew1 | refine below_set ?_ GE103.out | refine below_set ?_ GE104.out) | exact HB.out)⟩
           ·
            rw [if_neg c85] at H
            have c85b0 : (a1_0 == 5) = false := beq_eq_false_iff_ne.mpr c85
            have c85b1 : (a1_0 != 5) = true := bne_iff_ne.mpr c85
            by_cases c93 : a1_0 = 6
            ·
             rw [if_pos c93] at H
             have c93b0 : (a1_0 == 6) = true := beq_iff_eq.mpr c93
             have c93b1 : (a1_0 != 6) = false := bne_eq_false_iff_eq.mpr c93
             clear c93
             obtain rfl := Option.some.inj H
             have hcz95_0 : wc.cell? ⟨gb104, 0, none⟩ = some (.int .u8 a1_0) := ck_ BK104 0
             have hcz95_1 : wc.cell? ⟨gb104, 1, none⟩ = some (.int .i64 a1_1) := ck_ BK104 1
             have hcz95_2 : wc.cell? ⟨gb104, 2, none⟩ = some (.int .i64 a1_2) := ck_ BK104 2
             have hcz95_3 : wc.cell? ⟨gb104, 3, none⟩ = some (.int .i64 a1_3) := ck_ BK104 3
             have hcz95_4 : wc.cell? ⟨gb104, 4, none⟩ = some (.int .i64 a1_4) := ck_ BK104 4
             have hfz95_0 := blk_frozen BK104.out 0
             have hfz95_1 := blk_frozen BK104.out 1
             have hfz95_2 := blk_frozen BK104.out 2
             have hfz95_3 := blk_frozen BK104.out 3
             have hfz95_4 := blk_frozen BK104.out 4
             go_wp2
             go_ret
             exact ⟨by first | rfl | (simp [errW_none, errW_some] <;> rfl) | (simp [*, errW_none, errW_some] <;> rfl) | exact ret_ie _ | (simp [*, errW_none, errW_some, bne]; done), by repeat (first | (with_reducible first | exact HB.out | apply below_alloc | apply pw_below_drewN | apply below_drew1 | refine below_set ?_ GE103.out | refine below_set ?_ GE104.out) | exact HB.out)⟩
            ·
             rw [if_neg c93] at H
             have c93b0 : (a1_0 == 6) = false := beq_eq_false_iff_ne.mpr c93
             have c93b1 : (a1_0 != 6) = true := bne_iff_ne.mpr c93
             obtain rfl := Option.some.inj H
             have hcz97_0 : wc.cell? ⟨gb104, 0, none⟩ = some (.int .u8 a1_0) := ck_ BK104 0
             have hcz97_1 : wc.cell? ⟨gb104, 1, none⟩ = some (.int .i64 a1_1) := ck_ BK104 1
             have hcz97_2 : wc.cell? ⟨gb104, 2, none⟩ = some (.int .i64 a1_2) := ck_ BK104 2
             have hcz97_3 : wc.cell? ⟨gb104, 3, none⟩ = some (.int .i64 a1_3) := ck_ BK104 3
             have hcz97_4 : wc.cell? ⟨gb104, 4, none⟩ = some (.int .i64 a1_4) := ck_ BK104 4
             have hfz97_0 := blk_frozen BK104.out 0
             have hfz97_1 := blk_frozen BK104.out 1
             have hfz97_2 := blk_frozen BK104.out 2
             have hfz97_3 := blk_frozen BK104.out 3
             have hfz97_4 := blk_frozen BK104.out 4
             go_wp2
             go_ret
             exact ⟨by first | rfl | (simp [errW_none, errW_some] <;> rfl) | (simp [*, errW_none, errW_some] <;> rfl) | exact ret_ie _ | (simp [*, errW_none, errW_some, bne]; done), by repeat (first | (with_reducible first | exact HB.out | apply below_alloc | apply pw_below_drewN | apply below_drew1 | refine below_set ?_ GE103.out | refine below_set ?_ GE104.out) | exact HB.out)⟩

end Go.Proofs.Ytbgfjhnbmfgccaa.R

/- Contracts of Go functions and what they come to, over the translation of this seat: made by a program of this session (print2.py). -/
import Derived.Test.YtpalnbdcemmlnaaRx0
import Derived.Test.YtpalnbdcemmlnaaRx1
import Derived.Test.YtpalnbdcemmlnaaRx2
import Derived.Test.YtpalnbdcemmlnaaRx4
import Derived.Test.YtpalnbdcemmlnaaRx11
import Derived.Test.YtpalnbdcemmlnaaRx13
namespace Go.Proofs.Ytpalnbdcemmlnaa.R
open Go.RowKit Go.Proofs.Ytpalnbdcemmlnaa.Co Go.Proofs.Ytpalnbdcemmlnaa.Ret Go.Proofs.Ytpalnbdcemmlnaa.Plain Go.Proofs.Ytpalnbdcemmlnaa.Box Go.Proofs.YtpalnbdcemmlnaaW.PrintWords Go.Proofs.YtpalnbdcemmlnaaW.PrintLast Go.Proofs.YtpalnbdcemmlnaaW.PrintMore
attribute [local go_sem] max2_int min2_int max_two min_two max_three min_three max_four min_four   -- for this text's walks alone
set_option linter.unusedVariables false
set_option linter.unusedSimpArgs false

attribute [local go_sem high] eqA39
/-! ### millhandlaw12_BlockFinds: function 6 -/
def millhandlaw12_BlockFinds.j0 : Nat → List Int → ByteArray → Int → Bool → Option (Bool)
 | 0, _, _, _, _ => none
 | k + 1, x0, x1, x2, x21 => if x21 = true then (some true) else (if ([] : List Int).length + x0.length < 140737488355328 then ((some (([] : List Int) ++ x0 : List Int)).bind fun y409 => ((block_Find.f k y409 x1 x2).bind fun bt412 => ((millhandref12_Find.f k x0 x1 x2).bind fun bt419 => (if (bt412.1.toList == bt419.1.toList && (bt412.2.1 == bt419.2.1 && (bt412.2.2.1 == bt419.2.2.1 && (bt412.2.2.2.1.toList == bt419.2.2.2.1.toList)))) = true then (if (bt412.2.2.2.2.1 == bt419.2.2.2.2.1) = true then (if bt412.2.2.2.2.2 = bt419.2.2.2.2.2 then ((block_Common.f k x1 (strOfNums y409)).bind fun t426 => ((millhandref12_Common.f k x1 (strOfNums x0)).bind fun t427 => (if t426 = t427 then (some ((strOfNums y409).toList == (strOfNums x0).toList)) else (some false)))) else (some false)) else (some false)) else (some false))))) else (none))
def millhandlaw12_BlockFinds.f (k : Nat) (l0 : List Int) (a1 : ByteArray) (a2 : Int) : Option (Bool) := if (l0.length : Int) > 10000 then (millhandlaw12_BlockFinds.j0 k l0 a1 a2 true) else (millhandlaw12_BlockFinds.j0 k l0 a1 a2 (decide ((a1.size : Int) > 10000)))
theorem millhandlaw12_BlockFinds.mono_l : ∀ k, (∀ y0 y1 y2 y3, LeO (millhandlaw12_BlockFinds.j0 k y0 y1 y2 y3) (millhandlaw12_BlockFinds.j0 (k + 1) y0 y1 y2 y3))
 | 0 => fun _ _ _ _ r h => by simp [millhandlaw12_BlockFinds.j0] at h
 | k + 1 => by
  have ih0 := millhandlaw12_BlockFinds.mono_l k
  ·
   intro y0 y1 y2 y3
   unfold millhandlaw12_BlockFinds.j0
   repeat' first
   | (with_reducible exact ih0 _ _ _ _)
   | (with_reducible exact block_Common.mono _ _ _)
   | (with_reducible exact block_Find.mono _ _ _ _)
   | (with_reducible exact millhandref12_Common.mono _ _ _)
   | (with_reducible exact millhandref12_Find.mono _ _ _ _)
   | (with_reducible exact LeO.refl _)
   | (with_reducible exact LeO.none _)
   | (with_reducible refine LeO.ite ?_ ?_)
   | (with_reducible refine LeO.bind ?_ (fun _ => ?_))
   | exact ih0 _ _ _ _
   | exact block_Common.mono _ _ _
   | exact block_Find.mono _ _ _ _
   | exact millhandref12_Common.mono _ _ _
   | exact millhandref12_Find.mono _ _ _ _
   | exact LeO.none _
   | refine LeO.ite ?_ ?_
   | refine LeO.bind ?_ (fun _ => ?_)
theorem millhandlaw12_BlockFinds.mono : ∀ a0 a1 a2 k, LeO (millhandlaw12_BlockFinds.f k a0 a1 a2) (millhandlaw12_BlockFinds.f (k + 1) a0 a1 a2) := by
 intro a0 a1 a2 k
 have ih0 := millhandlaw12_BlockFinds.mono_l k
 unfold millhandlaw12_BlockFinds.f
 repeat' first
   | (with_reducible exact ih0 _ _ _ _)
   | (with_reducible exact block_Common.mono _ _ _)
   | (with_reducible exact block_Find.mono _ _ _ _)
   | (with_reducible exact millhandref12_Common.mono _ _ _)
   | (with_reducible exact millhandref12_Find.mono _ _ _ _)
   | (with_reducible exact LeO.refl _)
   | (with_reducible exact LeO.none _)
   | (with_reducible refine LeO.ite ?_ ?_)
   | (with_reducible refine LeO.bind ?_ (fun _ => ?_))
   | exact ih0 _ _ _ _
   | exact block_Common.mono _ _ _
   | exact block_Find.mono _ _ _ _
   | exact millhandref12_Common.mono _ _ _
   | exact millhandref12_Find.mono _ _ _ _
   | exact LeO.none _
   | refine LeO.ite ?_ ?_
   | refine LeO.bind ?_ (fun _ => ?_)
def millhandlaw12_BlockFinds.T6 : Bool × List (List Nat × List Nat) := (true, [([], []), ([], []), ([0, 1], [0, 1]), ([2], [2]), ([3], [3]), ([3], [3]), ([4, 5, 3], [3, 4, 5]), ([3, 6], [3, 6]), ([7, 3], [7]), ([8], [8]), ([8], [8]), ([9, 10, 8], [8, 9, 10]), ([8, 11], [8, 11]), ([12, 8], [12]), ([13], [13]), ([13], [13]), ([15, 13], [13, 15]), ([14, 16, 13, 13], [13, 14, 16]), ([13], [13]), ([13], [13]), ([19, 13], [13, 19]), ([18, 20, 17, 13], [13, 18, 20]), ([17, 21, 13], [13, 17, 21]), ([13, 22], [13, 22]), ([23, 21], [23]), ([24], [24]), ([25, 24], [24, 25]), ([24], [24]), ([27, 24], [24, 27]), ([26, 28, 24], [24, 26, 28]), ([24, 29], [24, 29]), ([30, 24, 0, 1, 2, 3, 4, 5, 6, 7, 8, 9, 10, 11, 12, 13, 14, 15, 16, 17, 18, 19, 20, 21, 22, 23, 24, 25, 26, 27, 28, 29, 30], [30])])
def millhandlaw12_BlockFinds.B6 : List Nat := [0, 0, 3, 7, 15, 15, 63, 127, 255, 511, 511, 2047, 4095, 8191, 16383, 16383, 49151, 131071, 16383, 16383, 540671, 2097151, 4194303, 8388607, 16777215, 33554431, 67108863, 33554431, 167772159, 536870911, 1073741823, 2147483647]
theorem millhandlaw12_BlockFinds.tab6 : rtab .any (opsOf Try.f6 6) = millhandlaw12_BlockFinds.T6 := by kernel_rfl
theorem millhandlaw12_BlockFinds.bits6 : waitsOk millhandlaw12_BlockFinds.T6.2 millhandlaw12_BlockFinds.B6 = true := by kernel_rfl
set_option maxHeartbeats 8000000 in
set_option maxRecDepth 100000 in
theorem millhandlaw12_BlockFinds.calls (k : Nat) (A0 : Option Addr) (c0 : Nat) (l0 : List Int) (a1 : ByteArray) (a2 : Int) (r : Bool) (w : World) (hr0 : Kd.C (Kd.int .u8) w A0 l0.length l0) (hc0 : l0.length ≤ c0) (h : millhandlaw12_BlockFinds.f k l0 a1 a2 = some r) :
  Calls Try.prog 6 #[.slice A0 l0.length c0, .string a1, .int .i64 a2] w fun e w' => e = .returned (.bool r) ∧ Below w.heap.size w w' := by
 have hu39 := Try.underlying39
 have HR0 := Aside0.mk hr0
 have HC0 := Aside0.mk hc0
 clear hr0 hc0
 have HB := Aside0.mk (Below.refl w.heap.size w)
 have H : (if (l0.length : Int) > 10000 then (millhandlaw12_BlockFinds.j0 k l0 a1 a2 true) else (millhandlaw12_BlockFinds.j0 k l0 a1 a2 (decide ((a1.size : Int) > 10000)))) = some r := h
 clear h
 have HC4 := Aside0.mk H
 clear H
 go_enter Try.func6, Try.ntmps6
 go_upto_region 1 with (fail)
 go_cut [21] (fun v21 wc => ∃ (kq : Nat) (x21_3 : Bool), v21 = .bool x21_3 ∧ Aside0 (millhandlaw12_BlockFinds.j0 kq l0 a1 a2 x21_3 = some r) ∧ Aside0 (kq ≤ k) ∧ Aside0 (Below w.heap.size w wc))
 case first =>
  have H := HC4.out
  clear HC4
  by_cases c5 : (l0.length : Int) > 10000
  ·
   rw [if_pos c5] at H
   have c5b0 : decide (10000 < (l0.length : Int)) = true := decide_eq_true c5
   have c5b1 : decide (10000 < l0.length) = true := decide_eq_true (by omega)
   clear c5
   (first | rw [c5b0] | (simp only [i64_w, i32_w]; rw [c5b0]) | skip)
   have H' := Aside0.mk H
   clear H
   go_wp2
   go_meet
   case rel => exact ⟨_, (true), (by first | rfl | (simp; done) | (simp [*]; done)), H', ⟨by first | omega | exact Nat.le_refl _⟩, ⟨by repeat (first | (with_reducible first | exact HB.out | apply below_alloc | apply pw_below_drewN | apply below_drew1) | exact HB.out)⟩⟩
  ·
   rw [if_neg c5] at H
   have c5b0 : decide (10000 < (l0.length : Int)) = false := decide_eq_false c5
   have c5b1 : decide (10000 < l0.length) = false := decide_eq_false (by omega)
   clear c5
   (first | rw [c5b0] | (simp only [i64_w, i32_w]; rw [c5b0]) | skip)
   have H' := Aside0.mk H
   clear H
   go_wp2
   go_meet
   case rel => exact ⟨_, (decide ((a1.size : Int) > 10000)), (by first | rfl | (simp; done) | (simp [*]; done)), H', ⟨by first | omega | exact Nat.le_refl _⟩, ⟨by repeat (first | (with_reducible first | exact HB.out | apply below_alloc | apply pw_below_drewN | apply below_drew1) | exact HB.out)⟩⟩
 case rest =>
  clear HC4
  try clear p2
  try clear c5
  try clear c5b0
  try clear c5b1
  obtain ⟨kq, x21_3, rfl, HA, HJ3, HB⟩ := hcut
  cases kq with
  | zero => exact absurd HA.out (by simp [millhandlaw12_BlockFinds.j0])
  | succ kj3 =>
   have H := HA.out
   clear HA
   simp only [millhandlaw12_BlockFinds.j0] at H
   by_cases c6 : x21_3 = true
   ·
    subst c6
    have H1 : (some true) = some r := by rw [if_pos rfl] at H; exact H
    clear H
    have H := H1
    clear H1
    obtain rfl := Option.some.inj H
    go_wp2
    go_ret
    exact ⟨by first | rfl | (simp [errW_none, errW_some] <;> rfl) | (simp [*, errW_none, errW_some] <;> rfl) | exact ret_ie _ | (simp [*, errW_none, errW_some, bne]; done), by repeat (first | (with_reducible first | exact HB.out | apply below_alloc | apply pw_below_drewN | apply below_drew1) | exact HB.out)⟩
   ·
    replace c6 := Bool.eq_false_iff.mpr c6
    subst c6
    have H1 : (if ([] : List Int).length + l0.length < 140737488355328 then ((some (([] : List Int) ++ l0 : List Int)).bind fun y409 => ((block_Find.f kj3 y409 a1 a2).bind fun bt412 => ((millhandref12_Find.f kj3 l0 a1 a2).bind fun bt419 => (if (bt412.1.toList == bt419.1.toList && (bt412.2.1 == bt419.2.1 && (bt412.2.2.1 == bt419.2.2.1 && (bt412.2.2.2.1.toList == bt419.2.2.2.1.toList)))) = true then (if (bt412.2.2.2.2.1 == bt419.2.2.2.2.1) = true then (if bt412.2.2.2.2.2 = bt419.2.2.2.2.2 then ((block_Common.f kj3 a1 (strOfNums y409)).bind fun t426 => ((millhandref12_Common.f kj3 a1 (strOfNums l0)).bind fun t427 => (if t426 = t427 then (some ((strOfNums y409).toList == (strOfNums l0).toList)) else (some false)))) else (some false)) else (some false)) else (some false))))) else (none)) = some r := by rw [if_neg (show ¬ (false = true) by decide)] at H; exact H
    clear H
    have H := H1
    clear H1
    by_cases c7 : ([] : List Int).length + l0.length < 140737488355328
    ·
     rw [if_pos c7] at H
     have LMc7 := Aside0.mk c7
     clear c7
     obtain ⟨y409, hy409⟩ : ∃ y_ : List Int, y_ = (([] : List Int) ++ l0) := ⟨_, rfl⟩
     replace H : ((block_Find.f kj3 y409 a1 a2).bind fun bt412 => ((millhandref12_Find.f kj3 l0 a1 a2).bind fun bt419 => (if (bt412.1.toList == bt419.1.toList && (bt412.2.1 == bt419.2.1 && (bt412.2.2.1 == bt419.2.2.1 && (bt412.2.2.2.1.toList == bt419.2.2.2.1.toList)))) = true then (if (bt412.2.2.2.2.1 == bt419.2.2.2.2.1) = true then (if bt412.2.2.2.2.2 = bt419.2.2.2.2.2 then ((block_Common.f kj3 a1 (strOfNums y409)).bind fun t426 => ((millhandref12_Common.f kj3 a1 (strOfNums l0)).bind fun t427 => (if t426 = t427 then (some ((strOfNums y409).toList == (strOfNums l0).toList)) else (some false)))) else (some false)) else (some false)) else (some false)))) = some r := by first | (rw [hy409]; with_reducible exact H) | (have H2_ := (Option.bind_some _ _).symm.trans H; rw [hy409]; with_reducible exact H2_) | (have H2_ := (Option.bind_some _ _).symm.trans H; with_reducible exact H2_) | with_reducible exact H | (rw [hy409]; exact H) | exact H
     have Ny409 := Aside0.mk hy409
     clear hy409
     replace H := Option.bind_eq_some_iff.mp H
     obtain ⟨⟨t412, t413, t414, t415, t416, t417⟩, A80, H⟩ := H
     replace H : ((millhandref12_Find.f kj3 l0 a1 a2).bind fun bt419 => (if (t412.toList == bt419.1.toList && (t413 == bt419.2.1 && (t414 == bt419.2.2.1 && (t415.toList == bt419.2.2.2.1.toList)))) = true then (if (t416 == bt419.2.2.2.2.1) = true then (if t417 = bt419.2.2.2.2.2 then ((block_Common.f kj3 a1 (strOfNums y409)).bind fun t426 => ((millhandref12_Common.f kj3 a1 (strOfNums l0)).bind fun t427 => (if t426 = t427 then (some ((strOfNums y409).toList == (strOfNums l0).toList)) else (some false)))) else (some false)) else (some false)) else (some false))) = some r := H
     have A8 := Aside0.mk A80
     clear A80
     replace H := Option.bind_eq_some_iff.mp H
     obtain ⟨⟨t419, t420, t421, t422, t423, t424⟩, A90, H⟩ := H
     replace H : (if (t412.toList == t419.toList && (t413 == t420 && (t414 == t421 && (t415.toList == t422.toList)))) = true then (if (t416 == t423) = true then (if t417 = t424 then ((block_Common.f kj3 a1 (strOfNums y409)).bind fun t426 => ((millhandref12_Common.f kj3 a1 (strOfNums l0)).bind fun t427 => (if t426 = t427 then (some ((strOfNums y409).toList == (strOfNums l0).toList)) else (some false)))) else (some false)) else (some false)) else (some false)) = some r := H
     have A9 := Aside0.mk A90
     clear A90
     by_cases c10 : (t412.toList == t419.toList && (t413 == t420 && (t414 == t421 && (t415.toList == t422.toList)))) = true
     ·
      rw [if_pos c10] at H
      have c10b0 : (t412.toList == t419.toList && (t413 == t420 && (t414 == t421 && (t415.toList == t422.toList)))) = true := c10
      (try (have c10b1 : decide (t412.toList = t419.toList && (t413 == t420 && (t414 == t421 && (t415.toList == t422.toList)))) = true := by simpa using c10))
      (try (have c10b2 : (t412.toList == t419.toList && (t413 == t420 && (t414 == t421 && (t415.toList == t422.toList)))) = true := by simpa using c10))
      clear c10
      by_cases c11 : (t416 == t423) = true
      ·
       rw [if_pos c11] at H
       have c11b0 : (t416 == t423) = true := c11
       (try (have c11b1 : decide (t416 = t423) = true := by simpa using c11))
       (try (have c11b2 : (t416 == t423) = true := by simpa using c11))
       clear c11
       by_cases c12 : t417 = t424
       ·
        rw [if_pos c12] at H
        have c12b0 : (t417 == t424) = true := beq_iff_eq.mpr c12
        have c12b1 : (t417 != t424) = false := bne_eq_false_iff_eq.mpr c12
        clear c12
        replace H := Option.bind_eq_some_iff.mp H
        obtain ⟨t426, A130, H⟩ := H
        replace H : ((millhandref12_Common.f kj3 a1 (strOfNums l0)).bind fun t427 => (if t426 = t427 then (some ((strOfNums y409).toList == (strOfNums l0).toList)) else (some false))) = some r := H
        have A13 := Aside0.mk A130
        clear A130
        replace H := Option.bind_eq_some_iff.mp H
        obtain ⟨t427, A140, H⟩ := H
        replace H : (if t426 = t427 then (some ((strOfNums y409).toList == (strOfNums l0).toList)) else (some false)) = some r := H
        have A14 := Aside0.mk A140
        clear A140
        by_cases c15 : t426 = t427
        ·
         rw [if_pos c15] at H
         have c15b0 : (t426 == t427) = true := beq_iff_eq.mpr c15
         have c15b1 : (t426 != t427) = false := bne_eq_false_iff_eq.mpr c15
         clear c15
         obtain rfl := Option.some.inj H
         try go_wp2_with (first | ((with_reducible refine gate_builtin (b := .append) (xs := #[.const (.slice none 0 0), .tmp 22]) rfl ?_); (try (refine gate_guard (by rfl) ?_; dsimp only)); at_builtin; refine Kd.R_append_rows (Kd.int .u8) (w0 := w) w.heap.size rfl (.const (.slice none 0 0)) (.tmp 22) 23 5 (.int .u8 0) 1 rfl Try.underlying23 info5 rfl (by decide) (by omega) (.slice none 0 0) ([] : List Int) l0 _ _ _ (fun _ => True) (fun _ => False) rfl rfl ?aO ?aR (fun _ _ h => h) (fun _ h => h.elim) ?aF ?aB ?aS ?aL ?_; (case aR => repeat (first | exact (Kd.C_below HR0.out HB.out) | (with_reducible refine Kd.C_alloc ?_ _) | (with_reducible refine Kd.C_drewN ?_ _) | (with_reducible refine Kd.C_drew ?_))); (case aB => exact (by repeat (first | (with_reducible first | exact HB.out | apply below_alloc | apply pw_below_drewN | apply below_drew1) | exact HB.out))); (case aF => exact (fun _ _ => trivial)); (case aO => exact ((Kd.R_nil _ _ _ _ (fun _ => True)))); (case aS => exact (below_size (by repeat (first | (with_reducible first | exact HB.out | apply below_alloc | apply pw_below_drewN | apply below_drew1) | exact HB.out)))); (case aL => have := LMc7.out; omega); intro v410 w16 ho hb hg hat; rw [← Ny409.out] at ho; have n0_ := Aside0.mk (hb); have n1_ := Aside0.mk (ho); clear HB; have HB := n0_; have HO411 := n1_; clear n0_ n1_; clear ho hb hg hat; obtain ⟨Ao17, co17, eo17⟩ := Kd.R_slice HO411.out; subst eo17) | ((with_reducible refine gate_callee (f := 16) rfl ?_); refine goesL_ (some 28) rfl rfl Try.func16 (by kernel_rfl) rfl #[.slice Ao17 y409.length co17, .string a1, .int .i64 a2] rfl (by (try simp only [List.map_toArray, List.map_cons, List.map_nil]); first | done | rfl | (simp only [List.length_drop, List.length_take]; rfl)) ?_; (with_reducible refine (block_Find.calls kj3 _ _ y409 a1 a2 t412 t413 t414 t415 t416 t417 _ ?side1 ?side2 A8.out).mono ?_); (case side1 => repeat (first | exact (Kd.R_reads' HO411.out).2.2 | (with_reducible refine Kd.C_alloc ?_ _) | (with_reducible refine Kd.C_drewN ?_ _) | (with_reducible refine Kd.C_drew ?_))); (case side2 => exact (Kd.R_reads' HO411.out).2.1); rintro e w18 ⟨rfl, hb⟩; refine ⟨_, rfl, ?_⟩; have n0_ := Aside0.mk (Kd.R_below (by (with_reducible repeat (first | apply Kd.R_alloc | apply Kd.R_drewN | apply Kd.R_drew)); exact HO411.out) hb); have n1_ := Aside0.mk (below_step (by repeat (first | (with_reducible first | exact HB.out | apply below_alloc | apply pw_below_drewN | apply below_drew1) | exact HB.out)) hb); clear HO411; clear HB; have HO411 := n0_; have HB := n1_; clear n0_ n1_; (try clear hb); (try clear hb2); (try clear hk); (try clear hi)) | ((with_reducible refine gate_dst (N := 8) rfl ?_); (try (refine gate_guard (by rfl) ?_; dsimp only)); refine box_event ?hg (N := 8) ?hd (cs := #[.string (⟨#[]⟩ : ByteArray), .int .i64 0, .bool false, .string (⟨#[]⟩ : ByteArray)]) (t := 39) ?hr ?_; (case hd => rfl); (case hg => rfl); (case hr => first | (go_simp; done) | (go_simp; rfl)); intro gb418 hg w19 hbox hb; have n0_ := Aside0.mk (Kd.R_below (by (with_reducible repeat (first | apply Kd.R_alloc | apply Kd.R_drewN | apply Kd.R_drew)); exact HO411.out) hb); have n1_ := Aside0.mk (below_step (by repeat (first | (with_reducible first | exact HB.out | apply below_alloc | apply pw_below_drewN | apply below_drew1) | exact HB.out)) hb); have n2_ := Aside0.mk (hbox); have n3_ := Aside0.mk ((by rw [hg]; exact (below_size (by repeat (first | (with_reducible first | exact HB.out | apply below_alloc | apply pw_below_drewN | apply below_drew1) | exact HB.out))) : w.heap.size ≤ gb418)); have n4_ := Aside0.mk ((by rw [hg]; exact (below_size (by repeat (first | (with_reducible first | exact HB.out | apply below_alloc | apply pw_below_drewN | apply below_drew1) | exact HB.out))) : w.heap.size ≤ gb418)); clear HO411; clear HB; have HO411 := n0_; have HB := n1_; have BK418 := n2_; have GW418 := n3_; have GE418 := n4_; clear n0_ n1_ n2_ n3_ n4_; clear hb hbox hg; have hcz20_0 : w19.cell? ⟨gb418, 0, none⟩ = some (.string (⟨#[]⟩ : ByteArray)) := (blk_cell BK418.out 0).trans rfl; have hcz20_1 : w19.cell? ⟨gb418, 1, none⟩ = some (.int .i64 0) := (blk_cell BK418.out 1).trans rfl; have hcz20_2 : w19.cell? ⟨gb418, 2, none⟩ = some (.bool false) := (blk_cell BK418.out 2).trans rfl; have hcz20_3 : w19.cell? ⟨gb418, 3, none⟩ = some (.string (⟨#[]⟩ : ByteArray)) := (blk_cell BK418.out 3).trans rfl; have hfz20_0 := blk_frozen BK418.out 0; have hfz20_1 := blk_frozen BK418.out 1; have hfz20_2 := blk_frozen BK418.out 2; have hfz20_3 := blk_frozen BK418.out 3) | ((with_reducible refine gate_callee (f := 18) rfl ?_); refine goesL_ (some 36) rfl rfl Try.func18 (by kernel_rfl) rfl #[.slice A0 l0.length c0, .string a1, .int .i64 a2] rfl (by (try simp only [List.map_toArray, List.map_cons, List.map_nil]); first | done | rfl | (simp only [List.length_drop, List.length_take]; rfl)) ?_; (with_reducible refine (millhandref12_Find.calls kj3 _ _ l0 a1 a2 t419 t420 t421 t422 t423 t424 _ ?side1 ?side2 A9.out).mono ?_); (case side1 => exact Kd.C_below HR0.out (by repeat (first | (with_reducible first | exact HB.out | apply below_alloc | apply pw_below_drewN | apply below_drew1 | refine below_set ?_ GE418.out) | exact HB.out))); (case side2 => exact HC0.out); rintro e w21 ⟨rfl, hb⟩; refine ⟨_, rfl, ?_⟩; have n0_ := Aside0.mk (Kd.R_below (by (with_reducible repeat (first | apply Kd.R_alloc | apply Kd.R_drewN | apply Kd.R_drew)); exact (Kd.R_mono (Kd.R_far (p := ⟨gb418, 3, none⟩) (Kd.R_far (p := ⟨gb418, 2, none⟩) (Kd.R_far (p := ⟨gb418, 1, none⟩) (Kd.R_far (p := ⟨gb418, 0, none⟩) (Kd.R_types HO411.out BK418.out (by decide)) (fun _ hk => hk.2) (.string t412)) (fun _ hk => hk.2) (.int .i64 t413)) (fun _ hk => hk.2) (.bool t414)) (fun _ hk => hk.2) (.string t415)) (fun _ h_ => h_.1))) hb); have n1_ := Aside0.mk (blk_below (g := gb418) (o := .cells #[.string t412, .int .i64 t413, .bool t414, .string t415] 39 (0, 0)) (by (with_reducible repeat (first | refine blk_drewN ?_ _ | refine blk_drew ?_ | refine blk_alloc ?_ _)); refine blk_put (cs := #[.string t412, .int .i64 t413, .bool t414, .string (⟨#[]⟩ : ByteArray)]) ?_ 3 _ rfl; (with_reducible repeat (first | refine blk_drewN ?_ _ | refine blk_drew ?_ | refine blk_alloc ?_ _)); refine blk_put (cs := #[.string t412, .int .i64 t413, .bool false, .string (⟨#[]⟩ : ByteArray)]) ?_ 2 _ rfl; (with_reducible repeat (first | refine blk_drewN ?_ _ | refine blk_drew ?_ | refine blk_alloc ?_ _)); refine blk_put (cs := #[.string t412, .int .i64 0, .bool false, .string (⟨#[]⟩ : ByteArray)]) ?_ 1 _ rfl; (with_reducible repeat (first | refine blk_drewN ?_ _ | refine blk_drew ?_ | refine blk_alloc ?_ _)); refine blk_put (cs := #[.string (⟨#[]⟩ : ByteArray), .int .i64 0, .bool false, .string (⟨#[]⟩ : ByteArray)]) ?_ 0 _ rfl; (with_reducible repeat (first | refine blk_drewN ?_ _ | refine blk_drew ?_ | refine blk_alloc ?_ _)); exact BK418.out) hb); have n2_ := Aside0.mk (below_step (by repeat (first | (with_reducible first | exact HB.out | apply below_alloc | apply pw_below_drewN | apply below_drew1 | refine below_set ?_ GE418.out) | exact HB.out)) hb); clear HO411; clear BK418; clear HB; have HO411 := n0_; have BK418 := n1_; have HB := n2_; clear n0_ n1_ n2_; (try clear hb); (try clear hb2); (try clear hk); (try clear hi)) | ((with_reducible refine gate_dst (N := 11) rfl ?_); (try (refine gate_guard (by rfl) ?_; dsimp only)); refine box_event ?hg (N := 11) ?hd (cs := #[.string (⟨#[]⟩ : ByteArray), .int .i64 0, .bool false, .string (⟨#[]⟩ : ByteArray)]) (t := 39) ?hr ?_; (case hd => rfl); (case hg => rfl); (case hr => first | (go_simp; done) | (go_simp; rfl)); intro gb425 hg w22 hbox hb; have n0_ := Aside0.mk (Kd.R_below (by (with_reducible repeat (first | apply Kd.R_alloc | apply Kd.R_drewN | apply Kd.R_drew)); exact HO411.out) hb); have n1_ := Aside0.mk (blk_below (g := gb418) (o := .cells #[.string t412, .int .i64 t413, .bool t414, .string t415] 39 (0, 0)) (by (with_reducible repeat (first | refine blk_drewN ?_ _ | refine blk_drew ?_ | refine blk_alloc ?_ _)); exact BK418.out) hb); have n2_ := Aside0.mk (below_step (by repeat (first | (with_reducible first | exact HB.out | apply below_alloc | apply pw_below_drewN | apply below_drew1 | refine below_set ?_ GE418.out) | exact HB.out)) hb); have n3_ := Aside0.mk (hbox); have n4_ := Aside0.mk ((by rw [hg]; exact (below_size (by repeat (first | (with_reducible first | exact HB.out | apply below_alloc | apply pw_below_drewN | apply below_drew1 | refine below_set ?_ GE418.out) | exact HB.out))) : w.heap.size ≤ gb425)); have n5_ := Aside0.mk ((by rw [hg]; exact (below_size (by repeat (first | (with_reducible first | exact HB.out | apply below_alloc | apply pw_below_drewN | apply below_drew1 | refine below_set ?_ GE418.out) | exact HB.out))) : w.heap.size ≤ gb425)); have n6_ := Aside0.mk ((by rw [hg]; exact Nat.ne_of_lt (blk_lt (g := gb418) (o := .cells #[.string t412, .int .i64 t413, .bool t414, .string t415] 39 (0, 0)) (by (with_reducible repeat (first | refine blk_drewN ?_ _ | refine blk_drew ?_ | refine blk_alloc ?_ _)); exact BK418.out)) : gb418 ≠ gb425)); have n7_ := Aside0.mk ((by rw [hg]; exact Nat.ne_of_gt (blk_lt (g := gb418) (o := .cells #[.string t412, .int .i64 t413, .bool t414, .string t415] 39 (0, 0)) (by (with_reducible repeat (first | refine blk_drewN ?_ _ | refine blk_drew ?_ | refine blk_alloc ?_ _)); exact BK418.out)) : gb425 ≠ gb418)); clear HO411; clear BK418; clear HB; have HO411 := n0_; have BK418 := n1_; have HB := n2_; have BK425 := n3_; have GW425 := n4_; have GE425 := n5_; have NB418_425 := n6_; have NB425_418 := n7_; clear n0_ n1_ n2_ n3_ n4_ n5_ n6_ n7_; clear hb hbox hg; have hnb23 := NB425_418.out; have hnc23 := NB418_425.out; have hcz24_0 : w22.cell? ⟨gb425, 0, none⟩ = some (.string (⟨#[]⟩ : ByteArray)) := (blk_cell BK425.out 0).trans rfl; have hcz24_1 : w22.cell? ⟨gb425, 1, none⟩ = some (.int .i64 0) := (blk_cell BK425.out 1).trans rfl; have hcz24_2 : w22.cell? ⟨gb425, 2, none⟩ = some (.bool false) := (blk_cell BK425.out 2).trans rfl; have hcz24_3 : w22.cell? ⟨gb425, 3, none⟩ = some (.string (⟨#[]⟩ : ByteArray)) := (blk_cell BK425.out 3).trans rfl; have hfz24_0 := blk_frozen BK425.out 0; have hfz24_1 := blk_frozen BK425.out 1; have hfz24_2 := blk_frozen BK425.out 2; have hfz24_3 := blk_frozen BK425.out 3))
         have n0_ : Aside0 (Kd.R (Kd.int .u8) 5 ((((w22.setCell ⟨gb425, 0, none⟩ (.string t419)).setCell ⟨gb425, 1, none⟩ (.int .i64 t420)).setCell ⟨gb425, 2, none⟩ (.bool t421)).setCell ⟨gb425, 3, none⟩ (.string t422)) w.heap.size (fun _ => True) (.slice Ao17 y409.length co17) y409) := ⟨by (with_reducible repeat (first | apply Kd.R_alloc | apply Kd.R_drewN | apply Kd.R_drew)); exact Kd.R_mono (Kd.R_far (p := ⟨gb425, 3, none⟩) (Kd.R_far (p := ⟨gb425, 2, none⟩) (Kd.R_far (p := ⟨gb425, 1, none⟩) (Kd.R_far (p := ⟨gb425, 0, none⟩) (Kd.R_types HO411.out BK425.out (by decide)) (fun _ hk => hk.2) (.string t419)) (fun _ hk => hk.2) (.int .i64 t420)) (fun _ hk => hk.2) (.bool t421)) (fun _ hk => hk.2) (.string t422)) (fun _ hk => trivial)⟩
         have n1_ : Aside0 (((((w22.setCell ⟨gb425, 0, none⟩ (.string t419)).setCell ⟨gb425, 1, none⟩ (.int .i64 t420)).setCell ⟨gb425, 2, none⟩ (.bool t421)).setCell ⟨gb425, 3, none⟩ (.string t422)).heap[gb418]? = some (.cells #[.string t412, .int .i64 t413, .bool t414, .string t415] 39 (0, 0))) := ⟨by (with_reducible repeat (first | refine blk_drewN ?_ _ | refine blk_drew ?_ | refine blk_alloc ?_ _)); refine blk_far ?_ NB418_425.out _; (with_reducible repeat (first | refine blk_drewN ?_ _ | refine blk_drew ?_ | refine blk_alloc ?_ _)); refine blk_far ?_ NB418_425.out _; (with_reducible repeat (first | refine blk_drewN ?_ _ | refine blk_drew ?_ | refine blk_alloc ?_ _)); refine blk_far ?_ NB418_425.out _; (with_reducible repeat (first | refine blk_drewN ?_ _ | refine blk_drew ?_ | refine blk_alloc ?_ _)); refine blk_far ?_ NB418_425.out _; (with_reducible repeat (first | refine blk_drewN ?_ _ | refine blk_drew ?_ | refine blk_alloc ?_ _)); exact BK418.out⟩
         have n2_ : Aside0 (((((w22.setCell ⟨gb425, 0, none⟩ (.string t419)).setCell ⟨gb425, 1, none⟩ (.int .i64 t420)).setCell ⟨gb425, 2, none⟩ (.bool t421)).setCell ⟨gb425, 3, none⟩ (.string t422)).heap[gb425]? = some (.cells #[.string t419, .int .i64 t420, .bool t421, .string t422] 39 (0, 0))) := ⟨by (with_reducible repeat (first | refine blk_drewN ?_ _ | refine blk_drew ?_ | refine blk_alloc ?_ _)); refine blk_put (cs := #[.string t419, .int .i64 t420, .bool t421, .string (⟨#[]⟩ : ByteArray)]) ?_ 3 _ rfl; (with_reducible repeat (first | refine blk_drewN ?_ _ | refine blk_drew ?_ | refine blk_alloc ?_ _)); refine blk_put (cs := #[.string t419, .int .i64 t420, .bool false, .string (⟨#[]⟩ : ByteArray)]) ?_ 2 _ rfl; (with_reducible repeat (first | refine blk_drewN ?_ _ | refine blk_drew ?_ | refine blk_alloc ?_ _)); refine blk_put (cs := #[.string t419, .int .i64 0, .bool false, .string (⟨#[]⟩ : ByteArray)]) ?_ 1 _ rfl; (with_reducible repeat (first | refine blk_drewN ?_ _ | refine blk_drew ?_ | refine blk_alloc ?_ _)); refine blk_put (cs := #[.string (⟨#[]⟩ : ByteArray), .int .i64 0, .bool false, .string (⟨#[]⟩ : ByteArray)]) ?_ 0 _ rfl; (with_reducible repeat (first | refine blk_drewN ?_ _ | refine blk_drew ?_ | refine blk_alloc ?_ _)); exact BK425.out⟩
         have n3_ : Aside0 (Below w.heap.size w ((((w22.setCell ⟨gb425, 0, none⟩ (.string t419)).setCell ⟨gb425, 1, none⟩ (.int .i64 t420)).setCell ⟨gb425, 2, none⟩ (.bool t421)).setCell ⟨gb425, 3, none⟩ (.string t422))) := ⟨by repeat (first | (with_reducible first | exact HB.out | apply below_alloc | apply pw_below_drewN | apply below_drew1 | refine below_set ?_ GE418.out | refine below_set ?_ GE425.out) | exact HB.out)⟩
         (try clear HO411)
         (try clear BK418)
         (try clear BK425)
         (try clear HB)
         generalize ((((w22.setCell ⟨gb425, 0, none⟩ (.string t419)).setCell ⟨gb425, 1, none⟩ (.int .i64 t420)).setCell ⟨gb425, 2, none⟩ (.bool t421)).setCell ⟨gb425, 3, none⟩ (.string t422)) = w25 at n0_ n1_ n2_ n3_ ⊢
         have HO411 := n0_
         have BK418 := n1_
         have BK425 := n2_
         have HB := n3_
         clear n0_ n1_ n2_ n3_
         have n0_ := Aside0.mk (Kd.R_drew HO411.out)
         have n1_ := Aside0.mk (blk_drew BK418.out)
         have n2_ := Aside0.mk (blk_drew BK425.out)
         have n3_ := Aside0.mk (below_drew1 HB.out)
         clear HO411
         clear BK418
         clear BK425
         clear HB
         have HO411 := n0_
         have BK418 := n1_
         have BK425 := n2_
         have HB := n3_
         clear n0_ n1_ n2_ n3_
         have hcv27 := own_string (P := Try.prog) Try.underlying23 Try.underlying5 Try.underlying9 (Kd.own_of_R HO411.out)
         refine start_ (n := 32) (S := fun w' => w'.cell? ⟨gb418, 0, none⟩ = some (.string t412) ∧ w'.cell? ⟨gb418, 1, none⟩ = some (.int .i64 t413) ∧ w'.cell? ⟨gb418, 2, none⟩ = some (.bool t414) ∧ w'.cell? ⟨gb418, 3, none⟩ = some (.string t415) ∧ w'.cell? ⟨gb425, 0, none⟩ = some (.string t419) ∧ w'.cell? ⟨gb425, 1, none⟩ = some (.int .i64 t420) ∧ w'.cell? ⟨gb425, 2, none⟩ = some (.bool t421) ∧ w'.cell? ⟨gb425, 3, none⟩ = some (.string t422) ∧ (convert 23 9 (.slice Ao17 y409.length co17)).run Try.prog w' = .ok (.string (strOfNums y409)) w' ∧ (convert 23 9 (.slice A0 l0.length c0)).run Try.prog w' = .ok (.string (strOfNums l0)) w') (ds := []) (b_ 32 0) (by kernel_rfl) rfl rfl ⟨(blk_cell BK418.out 0).trans rfl, (blk_cell BK418.out 1).trans rfl, (blk_cell BK418.out 2).trans rfl, (blk_cell BK418.out 3).trans rfl, (blk_cell BK425.out 0).trans rfl, (blk_cell BK425.out 1).trans rfl, (blk_cell BK425.out 2).trans rfl, (blk_cell BK425.out 3).trans rfl, (by first | exact own_string (P := Try.prog) Try.underlying23 Try.underlying5 Try.underlying9 (Kd.own_of_R HO411.out) | exact own_string (P := Try.prog) Try.underlying23 Try.underlying5 Try.underlying9 (Kd.own_of_R (Kd.R_drewN HO411.out _))), (by first | exact (C_string_ (P := Try.prog) (A := A0) (c := c0) Try.underlying23 Try.underlying5 Try.underlying9 (Kd.C_below HR0.out HB.out)) _ rfl | exact (C_string_ (P := Try.prog) (A := A0) (c := c0) Try.underlying23 Try.underlying5 Try.underlying9 (Kd.C_drewN (Kd.C_below HR0.out HB.out) _)) _ rfl)⟩ (fun hHeld => ?_); refine with_tabW millhandlaw12_BlockFinds.tab6 millhandlaw12_BlockFinds.bits6 (fun HT_ HW_ => ?_)
         generalize w25.drew = w26 at HO411 BK418 BK425 HB hHeld ⊢
         refine take_ (i := 0) (N := some 40) (v := ?_) (a' := ?_) (b_ 32 1) rfl rfl (take_ofW HT_.out HW_.out (by kernel_rfl)) (fun _ _ _ h => h) (Or.inl ⟨by rfl, ?_⟩) hHeld ?_ ?_
         rotate_left
         ·
          rintro w' ⟨s0, s1, s2, s3, s4, s5, s6, s7, s8, s9⟩
          go_simp
          with_reducible rfl
         rotate_left
         ·
          simp only [Act.put, sa_, s0_, s1_, i64_w, i32_w]
          rfl
         refine take_ (i := 1) (N := some 41) (v := ?_) (a' := ?_) (b_ 32 3) rfl rfl (take_ofW HT_.out HW_.out (by kernel_rfl)) (fun _ _ _ h => h) (Or.inl ⟨by rfl, ?_⟩) hHeld ?_ ?_
         rotate_left
         ·
          rintro w' ⟨s0, s1, s2, s3, s4, s5, s6, s7, s8, s9⟩
          go_simp
          with_reducible rfl
         rotate_left
         ·
          simp only [Act.put, sa_, s0_, s1_, i64_w, i32_w]
          rfl
         refine pA_ 2 42 ?_ (b_ 32 7) (any_of HT_.out (by kernel_rfl)) rfl rfl (fun _ _ _ h => h) (by rfl) ?_ ?_ ?_ ?_
         rotate_left
         ·
          intro w'
          go_simp
          with_reducible rfl
         rotate_left
         ·
          simp only [Act.put, sa_, s0_, s1_, i64_w, i32_w]
          rfl
         refine pA_ 3 43 ?_ (b_ 32 15) (any_of HT_.out (by kernel_rfl)) rfl rfl (fun _ _ _ h => h) (by rfl) ?_ ?_ ?_ ?_
         rotate_left
         ·
          intro w'
          go_simp
          with_reducible rfl
         rotate_left
         ·
          simp only [Act.put, sa_, s0_, s1_, i64_w, i32_w]
          rfl
         refine pA_ 4 44 ?_ (b_ 32 31) (any_of HT_.out (by kernel_rfl)) rfl rfl (fun _ _ _ h => h) (by rfl) ?_ ?_ ?_ ?_
         rotate_left
         ·
          intro w'
          go_simp
          with_reducible rfl
         rotate_left
         ·
          simp only [Act.put, sa_, s0_, s1_, i64_w, i32_w]
          rfl
         refine pA_ 5 45 ?_ (b_ 32 63) (any_of HT_.out (by kernel_rfl)) rfl rfl (fun _ _ _ h => h) (by rfl) ?_ ?_ ?_ ?_
         rotate_left
         ·
          intro w'
          go_simp
          with_reducible rfl
         rotate_left
         ·
          simp only [Act.put, sa_, s0_, s1_, i64_w, i32_w]
          rfl
         refine pA_ 6 46 ?_ (b_ 32 127) (any_of HT_.out (by kernel_rfl)) rfl rfl (fun _ _ _ h => h) (by rfl) ?_ ?_ ?_ ?_
         rotate_left
         ·
          intro w'
          go_simp
          with_reducible rfl
         rotate_left
         ·
          simp only [Act.put, sa_, s0_, s1_, i64_w, i32_w]
          rfl
         refine pA_ 7 47 ?_ (b_ 32 255) (any_of HT_.out (by kernel_rfl)) rfl rfl (fun _ _ _ h => h) (by rfl) ?_ ?_ ?_ ?_
         rotate_left
         ·
          intro w'
          go_simp
          with_reducible rfl
         rotate_left
         ·
          simp only [Act.put, sa_, s0_, s1_, i64_w, i32_w]
          rfl
         refine pA_ 8 48 ?_ (b_ 32 511) (any_of HT_.out (by kernel_rfl)) rfl rfl (fun _ _ _ h => h) (by rfl) ?_ ?_ ?_ ?_
         rotate_left
         ·
          intro w'
          go_simp
          with_reducible rfl
         rotate_left
         ·
          simp only [Act.put, sa_, s0_, s1_, i64_w, i32_w]
          rfl
         refine pA_ 9 49 ?_ (b_ 32 1023) (any_of HT_.out (by kernel_rfl)) rfl rfl (fun _ _ _ h => h) (by rfl) ?_ ?_ ?_ ?_
         rotate_left
         ·
          intro w'
          go_simp
          with_reducible rfl
         rotate_left
         ·
          simp only [Act.put, sa_, s0_, s1_, i64_w, i32_w]
          rfl
         refine pA_ 10 50 ?_ (b_ 32 2047) (any_of HT_.out (by kernel_rfl)) rfl rfl (fun _ _ _ h => h) (by rfl) ?_ ?_ ?_ ?_
         rotate_left
         ·
          intro w'
          go_simp
          with_reducible rfl
         rotate_left
         ·
          simp only [Act.put, sa_, s0_, s1_, i64_w, i32_w]
          rfl
         refine pA_ 11 51 ?_ (b_ 32 4095) (any_of HT_.out (by kernel_rfl)) rfl rfl (fun _ _ _ h => h) (by rfl) ?_ ?_ ?_ ?_
         rotate_left
         ·
          intro w'
          go_simp
          with_reducible rfl
         rotate_left
         ·
          simp only [Act.put, sa_, s0_, s1_, i64_w, i32_w]
          rfl
         refine pA_ 12 52 ?_ (b_ 32 8191) (any_of HT_.out (by kernel_rfl)) rfl rfl (fun _ _ _ h => h) (by rfl) ?_ ?_ ?_ ?_
         rotate_left
         ·
          intro w'
          go_simp
          with_reducible rfl
         rotate_left
         ·
          simp only [Act.put, sa_, s0_, s1_, i64_w, i32_w]
          rfl
         refine pA_ 13 53 ?_ (b_ 32 16383) (any_of HT_.out (by kernel_rfl)) rfl rfl (fun _ _ _ h => h) (by rfl) ?_ ?_ ?_ ?_
         rotate_left
         ·
          intro w'
          go_simp
          with_reducible rfl
         rotate_left
         ·
          simp only [Act.put, sa_, s0_, s1_, i64_w, i32_w]
          rfl
         refine pA_ 14 54 ?_ (b_ 32 32767) (any_of HT_.out (by kernel_rfl)) rfl rfl (fun _ _ _ h => h) (by rfl) ?_ ?_ ?_ ?_
         rotate_left
         ·
          intro w'
          go_simp
          with_reducible rfl
         rotate_left
         ·
          simp only [Act.put, sa_, s0_, s1_, i64_w, i32_w]
          rfl
         refine pA_ 15 55 ?_ (b_ 32 65535) (any_of HT_.out (by kernel_rfl)) rfl rfl (fun _ _ _ h => h) (by rfl) ?_ ?_ ?_ ?_
         rotate_left
         ·
          intro w'
          go_simp
          with_reducible rfl
         rotate_left
         ·
          simp only [Act.put, sa_, s0_, s1_, i64_w, i32_w]
          rfl
         refine take_ (i := 16) (N := some 56) (v := ?_) (a' := ?_) (b_ 32 131071) rfl rfl (take_ofW HT_.out HW_.out (by kernel_rfl)) (fun _ _ _ h => h) (Or.inl ⟨by rfl, ?_⟩) hHeld ?_ ?_
         rotate_left
         ·
          rintro w' ⟨s0, s1, s2, s3, s4, s5, s6, s7, s8, s9⟩
          go_simp
          with_reducible rfl
         rotate_left
         ·
          simp only [Act.put, sa_, s0_, s1_, i64_w, i32_w]
          rfl
         refine pA_ 18 58 ?_ (b_ 32 393215) (any_of HT_.out (by kernel_rfl)) rfl rfl (fun _ _ _ h => h) (by rfl) ?_ ?_ ?_ ?_
         rotate_left
         ·
          intro w'
          go_simp
          with_reducible rfl
         rotate_left
         ·
          simp only [Act.put, sa_, s0_, s1_, i64_w, i32_w]
          rfl
         refine pA_ 19 59 ?_ (b_ 32 917503) (any_of HT_.out (by kernel_rfl)) rfl rfl (fun _ _ _ h => h) (by rfl) ?_ ?_ ?_ ?_
         rotate_left
         ·
          intro w'
          go_simp
          with_reducible rfl
         rotate_left
         ·
          simp only [Act.put, sa_, s0_, s1_, i64_w, i32_w]
          rfl
         refine take_ (i := 20) (N := some 60) (v := ?_) (a' := ?_) (b_ 32 1966079) rfl rfl (take_ofW HT_.out HW_.out (by kernel_rfl)) (fun _ _ _ h => h) (Or.inl ⟨by rfl, ?_⟩) hHeld ?_ ?_
         rotate_left
         ·
          rintro w' ⟨s0, s1, s2, s3, s4, s5, s6, s7, s8, s9⟩
          go_simp
          with_reducible rfl
         rotate_left
         ·
          simp only [Act.put, sa_, s0_, s1_, i64_w, i32_w]
          rfl
         refine one_ (i := 17) (N := some 57) (b_ 32 2097151) rfl rfl (one_of HT_.out (by kernel_rfl)) (by decide) (fun K hK => ?_)
         refine goes_ Try.func17 (by kernel_rfl) rfl #[.string a1, .string (strOfNums y409)] (by rfl) rfl rfl (by (try simp only [List.map_toArray, List.map_cons, List.map_nil]); first | done | rfl | (simp only [List.length_drop, List.length_take]; rfl)) ?_
         with_reducible refine (block_Common.calls kj3 a1 (strOfNums y409) t426 _ A13.out).mono ?_
         rintro e w28 ⟨rfl, hb⟩
         refine ⟨_, rfl, ?_⟩
         have n0_ := Aside0.mk (Kd.R_below (by (with_reducible repeat (first | apply Kd.R_alloc | apply Kd.R_drewN | apply Kd.R_drew)); exact HO411.out) hb)
         have n1_ := Aside0.mk (blk_below (g := gb418) (o := .cells #[.string t412, .int .i64 t413, .bool t414, .string t415] 39 (0, 0)) (by (with_reducible repeat (first | refine blk_drewN ?_ _ | refine blk_drew ?_ | refine blk_alloc ?_ _)); exact BK418.out) hb)
         have n2_ := Aside0.mk (blk_below (g := gb425) (o := .cells #[.string t419, .int .i64 t420, .bool t421, .string t422] 39 (0, 0)) (by (with_reducible repeat (first | refine blk_drewN ?_ _ | refine blk_drew ?_ | refine blk_alloc ?_ _)); exact BK425.out) hb)
         have n3_ := Aside0.mk (below_step (by repeat (first | (with_reducible first | exact HB.out | apply below_alloc | apply pw_below_drewN | apply below_drew1 | refine below_set ?_ GE418.out | refine below_set ?_ GE425.out) | exact HB.out)) hb)
         clear HO411
         clear BK418
         clear BK425
         clear HB
         have HO411 := n0_
         have BK418 := n1_
         have BK425 := n2_
         have HB := n3_
         clear n0_ n1_ n2_ n3_
         (try clear hb)
         (try clear hb2)
         (try clear hk)
         (try clear hi)
         have hcv29 := C_string_ (P := Try.prog) (A := A0) (c := c0) Try.underlying23 Try.underlying5 Try.underlying9 (Kd.C_below HR0.out HB.out)
         refine hK.out _ _ ⟨(blk_cell BK418.out 0).trans rfl, (blk_cell BK418.out 1).trans rfl, (blk_cell BK418.out 2).trans rfl, (blk_cell BK418.out 3).trans rfl, (blk_cell BK425.out 0).trans rfl, (blk_cell BK425.out 1).trans rfl, (blk_cell BK425.out 2).trans rfl, (blk_cell BK425.out 3).trans rfl, (by first | exact own_string (P := Try.prog) Try.underlying23 Try.underlying5 Try.underlying9 (Kd.own_of_R HO411.out) | exact own_string (P := Try.prog) Try.underlying23 Try.underlying5 Try.underlying9 (Kd.own_of_R (Kd.R_drewN HO411.out _))), (by first | exact (C_string_ (P := Try.prog) (A := A0) (c := c0) Try.underlying23 Try.underlying5 Try.underlying9 (Kd.C_below HR0.out HB.out)) _ rfl | exact (C_string_ (P := Try.prog) (A := A0) (c := c0) Try.underlying23 Try.underlying5 Try.underlying9 (Kd.C_drewN (Kd.C_below HR0.out HB.out) _)) _ rfl)⟩ (fun hHeld => ?_)
         clear hK K
         refine norm_ (a' := ?_) ?_ ?_
         rotate_left
         ·
          show Act.put _ (some 57) _ = _
          simp only [Act.put, sa_, s0_, s1_, i64_w, i32_w]
          rfl
         refine one_ (i := 21) (N := some 61) (b_ 32 4194303) rfl rfl (one_of HT_.out (by kernel_rfl)) (by decide) (fun K hK => ?_)
         refine goes_ Try.func19 (by kernel_rfl) rfl #[.string a1, .string (strOfNums l0)] (by rfl) rfl rfl (by (try simp only [List.map_toArray, List.map_cons, List.map_nil]); first | done | rfl | (simp only [List.length_drop, List.length_take]; rfl)) ?_
         with_reducible refine (millhandref12_Common.calls kj3 a1 (strOfNums l0) t427 _ A14.out).mono ?_
         rintro e w' ⟨rfl, ⟨nd, rfl⟩⟩
         refine ⟨_, rfl, ?_⟩
         have hcv30 := own_string (P := Try.prog) Try.underlying23 Try.underlying5 Try.underlying9 (Kd.own_of_R HO411.out)
         have hcv31 := C_string_ (P := Try.prog) (A := A0) (c := c0) Try.underlying23 Try.underlying5 Try.underlying9 (Kd.C_below HR0.out HB.out)
         refine hK.out _ _ ⟨(blk_cell BK418.out 0).trans rfl, (blk_cell BK418.out 1).trans rfl, (blk_cell BK418.out 2).trans rfl, (blk_cell BK418.out 3).trans rfl, (blk_cell BK425.out 0).trans rfl, (blk_cell BK425.out 1).trans rfl, (blk_cell BK425.out 2).trans rfl, (blk_cell BK425.out 3).trans rfl, (by first | exact own_string (P := Try.prog) Try.underlying23 Try.underlying5 Try.underlying9 (Kd.own_of_R HO411.out) | exact own_string (P := Try.prog) Try.underlying23 Try.underlying5 Try.underlying9 (Kd.own_of_R (Kd.R_drewN HO411.out _))), (by first | exact (C_string_ (P := Try.prog) (A := A0) (c := c0) Try.underlying23 Try.underlying5 Try.underlying9 (Kd.C_below HR0.out HB.out)) _ rfl | exact (C_string_ (P := Try.prog) (A := A0) (c := c0) Try.underlying23 Try.underlying5 Try.underlying9 (Kd.C_drewN (Kd.C_below HR0.out HB.out) _)) _ rfl)⟩ (fun hHeld => ?_)
         clear hK K
         refine norm_ (a' := ?_) ?_ ?_
         rotate_left
         ·
          show Act.put _ (some 61) _ = _
          simp only [Act.put, sa_, s0_, s1_, i64_w, i32_w]
          rfl
         refine pA_ 22 62 ?_ (b_ 32 8388607) (any_of HT_.out (by kernel_rfl)) rfl rfl (fun _ _ _ h => h) (by rfl) ?_ ?_ ?_ ?_
         rotate_left
         ·
          intro w'
          go_simp
          with_reducible rfl
         rotate_left
         ·
          simp only [Act.put, sa_, s0_, s1_, i64_w, i32_w]
          rfl
         refine pA_ 23 63 ?_ (b_ 32 16777215) (any_of HT_.out (by kernel_rfl)) rfl rfl (fun _ _ _ h => h) (by rfl) ?_ ?_ ?_ ?_
         rotate_left
         ·
          intro w'
          go_simp
          with_reducible rfl
         rotate_left
         ·
          simp only [Act.put, sa_, s0_, s1_, i64_w, i32_w]
          rfl
         refine pA_ 24 64 ?_ (b_ 32 33554431) (any_of HT_.out (by kernel_rfl)) rfl rfl (fun _ _ _ h => h) (by rfl) ?_ ?_ ?_ ?_
         rotate_left
         ·
          intro w'
          go_simp
          with_reducible rfl
         rotate_left
         ·
          simp only [Act.put, sa_, s0_, s1_, i64_w, i32_w]
          rfl
         refine pA_ 25 65 ?_ (b_ 32 67108863) (any_of HT_.out (by kernel_rfl)) rfl rfl (fun _ _ _ h => h) (by rfl) ?_ ?_ ?_ ?_
         rotate_left
         ·
          intro w'
          go_simp
          with_reducible rfl
         rotate_left
         ·
          simp only [Act.put, sa_, s0_, s1_, i64_w, i32_w]
          rfl
         refine take_ (i := 26) (N := some 66) (v := ?_) (a' := ?_) (b_ 32 134217727) rfl rfl (take_ofW HT_.out HW_.out (by kernel_rfl)) (fun _ _ _ h => h) (Or.inl ⟨by rfl, ?_⟩) hHeld ?_ ?_
         rotate_left
         ·
          rintro w' ⟨s0, s1, s2, s3, s4, s5, s6, s7, s8, s9⟩
          go_simp
          with_reducible rfl
         rotate_left
         ·
          simp only [Act.put, sa_, s0_, s1_, i64_w, i32_w]
          rfl
         refine pA_ 27 67 ?_ (b_ 32 268435455) (any_of HT_.out (by kernel_rfl)) rfl rfl (fun _ _ _ h => h) (by rfl) ?_ ?_ ?_ ?_
         rotate_left
         ·
          intro w'
          go_simp
          with_reducible rfl
         rotate_left
         ·
          simp only [Act.put, sa_, s0_, s1_, i64_w, i32_w]
          rfl
         refine take_ (i := 28) (N := some 68) (v := ?_) (a' := ?_) (b_ 32 536870911) rfl rfl (take_ofW HT_.out HW_.out (by kernel_rfl)) (fun _ _ _ h => h) (Or.inl ⟨by rfl, ?_⟩) hHeld ?_ ?_
         rotate_left
         ·
          rintro w' ⟨s0, s1, s2, s3, s4, s5, s6, s7, s8, s9⟩
          go_simp
          with_reducible rfl
         rotate_left
         ·
          simp only [Act.put, sa_, s0_, s1_, i64_w, i32_w]
          rfl
         refine pA_ 29 69 ?_ (b_ 32 1073741823) (any_of HT_.out (by kernel_rfl)) rfl rfl (fun _ _ _ h => h) (by rfl) ?_ ?_ ?_ ?_
         rotate_left
         ·
          intro w'
          go_simp
          with_reducible rfl
         rotate_left
         ·
          simp only [Act.put, sa_, s0_, s1_, i64_w, i32_w]
          rfl
         refine pA_ 30 70 ?_ (b_ 32 2147483647) (any_of HT_.out (by kernel_rfl)) rfl rfl (fun _ _ _ h => h) (by rfl) ?_ ?_ ?_ ?_
         rotate_left
         ·
          intro w'
          go_simp
          with_reducible rfl
         rotate_left
         ·
          simp only [Act.put, sa_, s0_, s1_, i64_w, i32_w]
          rfl
         refine pA_ 31 6 ?_ (b_ 32 4294967295) (any_of HT_.out (by kernel_rfl)) rfl rfl (fun _ _ _ h => h) (by rfl) ?_ ?_ ?_ ?_
         rotate_left
         ·
          intro w'
          go_simp
          with_reducible rfl
         rotate_left
         ·
          simp only [Act.put, sa_, s0_, s1_, i64_w, i32_w]
          rfl
         refine done_ (done_of HT_.out (by kernel_rfl)) ?_
         try go_wp2
         go_ret
         exact ⟨by first | rfl | (simp [errW_none, errW_some] <;> rfl) | (simp [*, errW_none, errW_some] <;> rfl) | exact ret_ie _ | (simp [*, errW_none, errW_some, bne]; done), by repeat (first | (with_reducible first | exact HB.out | apply below_alloc | apply pw_below_drewN | apply below_drew1 | refine below_set ?_ GE418.out | refine below_set ?_ GE425.out) | exact HB.out)⟩
        ·
         rw [if_neg c15] at H
         have c15b0 : (t426 == t427) = false := beq_eq_false_iff_ne.mpr c15
         have c15b1 : (t426 != t427) = true := bne_iff_ne.mpr c15
         obtain rfl := Option.some.inj H
         try go_wp2_with (first | ((with_reducible refine gate_builtin (b := .append) (xs := #[.const (.slice none 0 0), .tmp 22]) rfl ?_); (try (refine gate_guard (by rfl) ?_; dsimp only)); at_builtin; refine Kd.R_append_rows (Kd.int .u8) (w0 := w) w.heap.size rfl (.const (.slice none 0 0)) (.tmp 22) 23 5 (.int .u8 0) 1 rfl Try.underlying23 info5 rfl (by decide) (by omega) (.slice none 0 0) ([] : List Int) l0 _ _ _ (fun _ => True) (fun _ => False) rfl rfl ?aO ?aR (fun _ _ h => h) (fun _ h => h.elim) ?aF ?aB ?aS ?aL ?_; (case aR => repeat (first | exact (Kd.C_below HR0.out HB.out) | (with_reducible refine Kd.C_alloc ?_ _) | (with_reducible refine Kd.C_drewN ?_ _) | (with_reducible refine Kd.C_drew ?_))); (case aB => exact (by repeat (first | (with_reducible first | exact HB.out | apply below_alloc | apply pw_below_drewN | apply below_drew1) | exact HB.out))); (case aF => exact (fun _ _ => trivial)); (case aO => exact ((Kd.R_nil _ _ _ _ (fun _ => True)))); (case aS => exact (below_size (by repeat (first | (with_reducible first | exact HB.out | apply below_alloc | apply pw_below_drewN | apply below_drew1) | exact HB.out)))); (case aL => have := LMc7.out; omega); intro v410 w33 ho hb hg hat; rw [← Ny409.out] at ho; have n0_ := Aside0.mk (hb); have n1_ := Aside0.mk (ho); clear HB; have HB := n0_; have HO411 := n1_; clear n0_ n1_; clear ho hb hg hat; obtain ⟨Ao34, co34, eo34⟩ := Kd.R_slice HO411.out; subst eo34) | ((with_reducible refine gate_callee (f := 16) rfl ?_); refine goesL_ (some 28) rfl rfl Try.func16 (by kernel_rfl) rfl #[.slice Ao34 y409.length co34, .string a1, .int .i64 a2] rfl (by (try simp only [List.map_toArray, List.map_cons, List.map_nil]); first | done | rfl | (simp only [List.length_drop, List.length_take]; rfl)) ?_; (with_reducible refine (block_Find.calls kj3 _ _ y409 a1 a2 t412 t413 t414 t415 t416 t417 _ ?side1 ?side2 A8.out).mono ?_); (case side1 => repeat (first | exact (Kd.R_reads' HO411.out).2.2 | (with_reducible refine Kd.C_alloc ?_ _) | (with_reducible refine Kd.C_drewN ?_ _) | (with_reducible refine Kd.C_drew ?_))); (case side2 => exact (Kd.R_reads' HO411.out).2.1); rintro e w35 ⟨rfl, hb⟩; refine ⟨_, rfl, ?_⟩; have n0_ := Aside0.mk (Kd.R_below (by (with_reducible repeat (first | apply Kd.R_alloc | apply Kd.R_drewN | apply Kd.R_drew)); exact HO411.out) hb); have n1_ := Aside0.mk (below_step (by repeat (first | (with_reducible first | exact HB.out | apply below_alloc | apply pw_below_drewN | apply below_drew1) | exact HB.out)) hb); clear HO411; clear HB; have HO411 := n0_; have HB := n1_; clear n0_ n1_; (try clear hb); (try clear hb2); (try clear hk); (try clear hi)) | ((with_reducible refine gate_dst (N := 8) rfl ?_); (try (refine gate_guard (by rfl) ?_; dsimp only)); refine box_event ?hg (N := 8) ?hd (cs := #[.string (⟨#[]⟩ : ByteArray), .int .i64 0, .bool false, .string (⟨#[]⟩ : ByteArray)]) (t := 39) ?hr ?_; (case hd => rfl); (case hg => rfl); (case hr => first | (go_simp; done) | (go_simp; rfl)); intro gb418 hg w36 hbox hb; have n0_ := Aside0.mk (Kd.R_below (by (with_reducible repeat (first | apply Kd.R_alloc | apply Kd.R_drewN | apply Kd.R_drew)); exact HO411.out) hb); have n1_ := Aside0.mk (below_step (by repeat (first | (with_reducible first | exact HB.out | apply below_alloc | apply pw_below_drewN | apply below_drew1) | exact HB.out)) hb); have n2_ := Aside0.mk (hbox); have n3_ := Aside0.mk ((by rw [hg]; exact (below_size (by repeat (first | (with_reducible first | exact HB.out | apply below_alloc | apply pw_below_drewN | apply below_drew1) | exact HB.out))) : w.heap.size ≤ gb418)); have n4_ := Aside0.mk ((by rw [hg]; exact (below_size (by repeat (first | (with_reducible first | exact HB.out | apply below_alloc | apply pw_below_drewN | apply below_drew1) | exact HB.out))) : w.heap.size ≤ gb418)); clear HO411; clear HB; have HO411 := n0_; have HB := n1_; have BK418 := n2_; have GW418 := n3_; have GE418 := n4_; clear n0_ n1_ n2_ n3_ n4_; clear hb hbox hg; have hcz37_0 : w36.cell? ⟨gb418, 0, none⟩ = some (.string (⟨#[]⟩ : ByteArray)) := (blk_cell BK418.out 0).trans rfl; have hcz37_1 : w36.cell? ⟨gb418, 1, none⟩ = some (.int .i64 0) := (blk_cell BK418.out 1).trans rfl; have hcz37_2 : w36.cell? ⟨gb418, 2, none⟩ = some (.bool false) := (blk_cell BK418.out 2).trans rfl; have hcz37_3 : w36.cell? ⟨gb418, 3, none⟩ = some (.string (⟨#[]⟩ : ByteArray)) := (blk_cell BK418.out 3).trans rfl; have hfz37_0 := blk_frozen BK418.out 0; have hfz37_1 := blk_frozen BK418.out 1; have hfz37_2 := blk_frozen BK418.out 2; have hfz37_3 := blk_frozen BK418.out 3) | ((with_reducible refine gate_callee (f := 18) rfl ?_); refine goesL_ (some 36) rfl rfl Try.func18 (by kernel_rfl) rfl #[.slice A0 l0.length c0, .string a1, .int .i64 a2] rfl (by (try simp only [List.map_toArray, List.map_cons, List.map_nil]); first | done | rfl | (simp only [List.length_drop, List.length_take]; rfl)) ?_; (with_reducible refine (millhandref12_Find.calls kj3 _ _ l0 a1 a2 t419 t420 t421 t422 t423 t424 _ ?side1 ?side2 A9.out).mono ?_); (case side1 => exact Kd.C_below HR0.out (by repeat (first | (with_reducible first | exact HB.out | apply below_alloc | apply pw_below_drewN | apply below_drew1 | refine below_set ?_ GE418.out) | exact HB.out))); (case side2 => exact HC0.out); rintro e w38 ⟨rfl, hb⟩; refine ⟨_, rfl, ?_⟩; have n0_ := Aside0.mk (Kd.R_below (by (with_reducible repeat (first | apply Kd.R_alloc | apply Kd.R_drewN | apply Kd.R_drew)); exact (Kd.R_mono (Kd.R_far (p := ⟨gb418, 3, none⟩) (Kd.R_far (p := ⟨gb418, 2, none⟩) (Kd.R_far (p := ⟨gb418, 1, none⟩) (Kd.R_far (p := ⟨gb418, 0, none⟩) (Kd.R_types HO411.out BK418.out (by decide)) (fun _ hk => hk.2) (.string t412)) (fun _ hk => hk.2) (.int .i64 t413)) (fun _ hk => hk.2) (.bool t414)) (fun _ hk => hk.2) (.string t415)) (fun _ h_ => h_.1))) hb); have n1_ := Aside0.mk (blk_below (g := gb418) (o := .cells #[.string t412, .int .i64 t413, .bool t414, .string t415] 39 (0, 0)) (by (with_reducible repeat (first | refine blk_drewN ?_ _ | refine blk_drew ?_ | refine blk_alloc ?_ _)); refine blk_put (cs := #[.string t412, .int .i64 t413, .bool t414, .string (⟨#[]⟩ : ByteArray)]) ?_ 3 _ rfl; (with_reducible repeat (first | refine blk_drewN ?_ _ | refine blk_drew ?_ | refine blk_alloc ?_ _)); refine blk_put (cs := #[.string t412, .int .i64 t413, .bool false, .string (⟨#[]⟩ : ByteArray)]) ?_ 2 _ rfl; (with_reducible repeat (first | refine blk_drewN ?_ _ | refine blk_drew ?_ | refine blk_alloc ?_ _)); refine blk_put (cs := #[.string t412, .int .i64 0, .bool false, .string (⟨#[]⟩ : ByteArray)]) ?_ 1 _ rfl; (with_reducible repeat (first | refine blk_drewN ?_ _ | refine blk_drew ?_ | refine blk_alloc ?_ _)); refine blk_put (cs := #[.string (⟨#[]⟩ : ByteArray), .int .i64 0, .bool false, .string (⟨#[]⟩ : ByteArray)]) ?_ 0 _ rfl; (with_reducible repeat (first | refine blk_drewN ?_ _ | refine blk_drew ?_ | refine blk_alloc ?_ _)); exact BK418.out) hb); have n2_ := Aside0.mk (below_step (by repeat (first | (with_reducible first | exact HB.out | apply below_alloc | apply pw_below_drewN | apply below_drew1 | refine below_set ?_ GE418.out) | exact HB.out)) hb); clear HO411; clear BK418; clear HB; have HO411 := n0_; have BK418 := n1_; have HB := n2_; clear n0_ n1_ n2_; (try clear hb); (try clear hb2); (try clear hk); (try clear hi)) | ((with_reducible refine gate_dst (N := 11) rfl ?_); (try (refine gate_guard (by rfl) ?_; dsimp only)); refine box_event ?hg (N := 11) ?hd (cs := #[.string (⟨#[]⟩ : ByteArray), .int .i64 0, .bool false, .string (⟨#[]⟩ : ByteArray)]) (t := 39) ?hr ?_; (case hd => rfl); (case hg => rfl); (case hr => first | (go_simp; done) | (go_simp; rfl)); intro gb425 hg w39 hbox hb; have n0_ := Aside0.mk (Kd.R_below (by (with_reducible repeat (first | apply Kd.R_alloc | apply Kd.R_drewN | apply Kd.R_drew)); exact HO411.out) hb); have n1_ := Aside0.mk (blk_below (g := gb418) (o := .cells #[.string t412, .int .i64 t413, .bool t414, .string t415] 39 (0, 0)) (by (with_reducible repeat (first | refine blk_drewN ?_ _ | refine blk_drew ?_ | refine blk_alloc ?_ _)); exact BK418.out) hb); have n2_ := Aside0.mk (below_step (by repeat (first | (with_reducible first | exact HB.out | apply below_alloc | apply pw_below_drewN | apply below_drew1 | refine below_set ?_ GE418.out) | exact HB.out)) hb); have n3_ := Aside0.mk (hbox); have n4_ := Aside0.mk ((by rw [hg]; exact (below_size (by repeat (first | (with_reducible first | exact HB.out | apply below_alloc | apply pw_below_drewN | apply below_drew1 | refine below_set ?_ GE418.out) | exact HB.out))) : w.heap.size ≤ gb425)); have n5_ := Aside0.mk ((by rw [hg]; exact (below_size (by repeat (first | (with_reducible first | exact HB.out | apply below_alloc | apply pw_below_drewN | apply below_drew1 | refine below_set ?_ GE418.out) | exact HB.out))) : w.heap.size ≤ gb425)); have n6_ := Aside0.mk ((by rw [hg]; exact Nat.ne_of_lt (blk_lt (g := gb418) (o := .cells #[.string t412, .int .i64 t413, .bool t414, .string t415] 39 (0, 0)) (by (with_reducible repeat (first | refine blk_drewN ?_ _ | refine blk_drew ?_ | refine blk_alloc ?_ _)); exact BK418.out)) : gb418 ≠ gb425)); have n7_ := Aside0.mk ((by rw [hg]; exact Nat.ne_of_gt (blk_lt (g := gb418) (o := .cells #[.string t412, .int .i64 t413, .bool t414, .string t415] 39 (0, 0)) (by (with_reducible repeat (first | refine blk_drewN ?_ _ | refine blk_drew ?_ | refine blk_alloc ?_ _)); exact BK418.out)) : gb425 ≠ gb418)); clear HO411; clear BK418; clear HB; have HO411 := n0_; have BK418 := n1_; have HB := n2_; have BK425 := n3_; have GW425 := n4_; have GE425 := n5_; have NB418_425 := n6_; have NB425_418 := n7_; clear n0_ n1_ n2_ n3_ n4_ n5_ n6_ n7_; clear hb hbox hg; have hnb40 := NB425_418.out; have hnc40 := NB418_425.out; have hcz41_0 : w39.cell? ⟨gb425, 0, none⟩ = some (.string (⟨#[]⟩ : ByteArray)) := (blk_cell BK425.out 0).trans rfl; have hcz41_1 : w39.cell? ⟨gb425, 1, none⟩ = some (.int .i64 0) := (blk_cell BK425.out 1).trans rfl; have hcz41_2 : w39.cell? ⟨gb425, 2, none⟩ = some (.bool false) := (blk_cell BK425.out 2).trans rfl; have hcz41_3 : w39.cell? ⟨gb425, 3, none⟩ = some (.string (⟨#[]⟩ : ByteArray)) := (blk_cell BK425.out 3).trans rfl; have hfz41_0 := blk_frozen BK425.out 0; have hfz41_1 := blk_frozen BK425.out 1; have hfz41_2 := blk_frozen BK425.out 2; have hfz41_3 := blk_frozen BK425.out 3))
         have n0_ : Aside0 (Kd.R (Kd.int .u8) 5 ((((w39.setCell ⟨gb425, 0, none⟩ (.string t419)).setCell ⟨gb425, 1, none⟩ (.int .i64 t420)).setCell ⟨gb425, 2, none⟩ (.bool t421)).setCell ⟨gb425, 3, none⟩ (.string t422)) w.heap.size (fun _ => True) (.slice Ao34 y409.length co34) y409) := ⟨by (with_reducible repeat (first | apply Kd.R_alloc | apply Kd.R_drewN | apply Kd.R_drew)); exact Kd.R_mono (Kd.R_far (p := ⟨gb425, 3, none⟩) (Kd.R_far (p := ⟨gb425, 2, none⟩) (Kd.R_far (p := ⟨gb425, 1, none⟩) (Kd.R_far (p := ⟨gb425, 0, none⟩) (Kd.R_types HO411.out BK425.out (by decide)) (fun _ hk => hk.2) (.string t419)) (fun _ hk => hk.2) (.int .i64 t420)) (fun _ hk => hk.2) (.bool t421)) (fun _ hk => hk.2) (.string t422)) (fun _ hk => trivial)⟩
         have n1_ : Aside0 (((((w39.setCell ⟨gb425, 0, none⟩ (.string t419)).setCell ⟨gb425, 1, none⟩ (.int .i64 t420)).setCell ⟨gb425, 2, none⟩ (.bool t421)).setCell ⟨gb425, 3, none⟩ (.string t422)).heap[gb418]? = some (.cells #[.string t412, .int .i64 t413, .bool t414, .string t415] 39 (0, 0))) := ⟨by (with_reducible repeat (first | refine blk_drewN ?_ _ | refine blk_drew ?_ | refine blk_alloc ?_ _)); refine blk_far ?_ NB418_425.out _; (with_reducible repeat (first | refine blk_drewN ?_ _ | refine blk_drew ?_ | refine blk_alloc ?_ _)); refine blk_far ?_ NB418_425.out _; (with_reducible repeat (first | refine blk_drewN ?_ _ | refine blk_drew ?_ | refine blk_alloc ?_ _)); refine blk_far ?_ NB418_425.out _; (with_reducible repeat (first | refine blk_drewN ?_ _ | refine blk_drew ?_ | refine blk_alloc ?_ _)); refine blk_far ?_ NB418_425.out _; (with_reducible repeat (first | refine blk_drewN ?_ _ | refine blk_drew ?_ | refine blk_alloc ?_ _)); exact BK418.out⟩
         have n2_ : Aside0 (((((w39.setCell ⟨gb425, 0, none⟩ (.string t419)).setCell ⟨gb425, 1, none⟩ (.int .i64 t420)).setCell ⟨gb425, 2, none⟩ (.bool t421)).setCell ⟨gb425, 3, none⟩ (.string t422)).heap[gb425]? = some (.cells #[.string t419, .int .i64 t420, .bool t421, .string t422] 39 (0, 0))) := ⟨by (with_reducible repeat (first | refine blk_drewN ?_ _ | refine blk_drew ?_ | refine blk_alloc ?_ _)); refine blk_put (cs := #[.string t419, .int .i64 t420, .bool t421, .string (⟨#[]⟩ : ByteArray)]) ?_ 3 _ rfl; (with_reducible repeat (first | refine blk_drewN ?_ _ | refine blk_drew ?_ | refine blk_alloc ?_ _)); refine blk_put (cs := #[.string t419, .int .i64 t420, .bool false, .string (⟨#[]⟩ : ByteArray)]) ?_ 2 _ rfl; (with_reducible repeat (first | refine blk_drewN ?_ _ | refine blk_drew ?_ | refine blk_alloc ?_ _)); refine blk_put (cs := #[.string t419, .int .i64 0, .bool false, .string (⟨#[]⟩ : ByteArray)]) ?_ 1 _ rfl; (with_reducible repeat (first | refine blk_drewN ?_ _ | refine blk_drew ?_ | refine blk_alloc ?_ _)); refine blk_put (cs := #[.string (⟨#[]⟩ : ByteArray), .int .i64 0, .bool false, .string (⟨#[]⟩ : ByteArray)]) ?_ 0 _ rfl; (with_reducible repeat (first | refine blk_drewN ?_ _ | refine blk_drew ?_ | refine blk_alloc ?_ _)); exact BK425.out⟩
         have n3_ : Aside0 (Below w.heap.size w ((((w39.setCell ⟨gb425, 0, none⟩ (.string t419)).setCell ⟨gb425, 1, none⟩ (.int .i64 t420)).setCell ⟨gb425, 2, none⟩ (.bool t421)).setCell ⟨gb425, 3, none⟩ (.string t422))) := ⟨by repeat (first | (with_reducible first | exact HB.out | apply below_alloc | apply pw_below_drewN | apply below_drew1 | refine below_set ?_ GE418.out | refine below_set ?_ GE425.out) | exact HB.out)⟩
         (try clear HO411)
         (try clear BK418)
         (try clear BK425)
         (try clear HB)
         generalize ((((w39.setCell ⟨gb425, 0, none⟩ (.string t419)).setCell ⟨gb425, 1, none⟩ (.int .i64 t420)).setCell ⟨gb425, 2, none⟩ (.bool t421)).setCell ⟨gb425, 3, none⟩ (.string t422)) = w42 at n0_ n1_ n2_ n3_ ⊢
         have HO411 := n0_
         have BK418 := n1_
         have BK425 := n2_
         have HB := n3_
         clear n0_ n1_ n2_ n3_
         have n0_ := Aside0.mk (Kd.R_drew HO411.out)
         have n1_ := Aside0.mk (blk_drew BK418.out)
         have n2_ := Aside0.mk (blk_drew BK425.out)
         have n3_ := Aside0.mk (below_drew1 HB.out)
         clear HO411
         clear BK418
         clear BK425
         clear HB
         have HO411 := n0_
         have BK418 := n1_
         have BK425 := n2_
         have HB := n3_
         clear n0_ n1_ n2_ n3_
         have hcv44 := own_string (P := Try.prog) Try.underlying23 Try.underlying5 Try.underlying9 (Kd.own_of_R HO411.out)
         refine start_ (n := 32) (S := fun w' => w'.cell? ⟨gb418, 0, none⟩ = some (.string t412) ∧ w'.cell? ⟨gb418, 1, none⟩ = some (.int .i64 t413) ∧ w'.cell? ⟨gb418, 2, none⟩ = some (.bool t414) ∧ w'.cell? ⟨gb418, 3, none⟩ = some (.string t415) ∧ w'.cell? ⟨gb425, 0, none⟩ = some (.string t419) ∧ w'.cell? ⟨gb425, 1, none⟩ = some (.int .i64 t420) ∧ w'.cell? ⟨gb425, 2, none⟩ = some (.bool t421) ∧ w'.cell? ⟨gb425, 3, none⟩ = some (.string t422) ∧ (convert 23 9 (.slice Ao34 y409.length co34)).run Try.prog w' = .ok (.string (strOfNums y409)) w' ∧ (convert 23 9 (.slice A0 l0.length c0)).run Try.prog w' = .ok (.string (strOfNums l0)) w') (ds := []) (b_ 32 0) (by kernel_rfl) rfl rfl ⟨(blk_cell BK418.out 0).trans rfl, (blk_cell BK418.out 1).trans rfl, (blk_cell BK418.out 2).trans rfl, (blk_cell BK418.out 3).trans rfl, (blk_cell BK425.out 0).trans rfl, (blk_cell BK425.out 1).trans rfl, (blk_cell BK425.out 2).trans rfl, (blk_cell BK425.out 3).trans rfl, (by first | exact own_string (P := Try.prog) Try.underlying23 Try.underlying5 Try.underlying9 (Kd.own_of_R HO411.out) | exact own_string (P := Try.prog) Try.underlying23 Try.underlying5 Try.underlying9 (Kd.own_of_R (Kd.R_drewN HO411.out _))), (by first | exact (C_string_ (P := Try.prog) (A := A0) (c := c0) Try.underlying23 Try.underlying5 Try.underlying9 (Kd.C_below HR0.out HB.out)) _ rfl | exact (C_string_ (P := Try.prog) (A := A0) (c := c0) Try.underlying23 Try.underlying5 Try.underlying9 (Kd.C_drewN (Kd.C_below HR0.out HB.out) _)) _ rfl)⟩ (fun hHeld => ?_); refine with_tabW millhandlaw12_BlockFinds.tab6 millhandlaw12_BlockFinds.bits6 (fun HT_ HW_ => ?_)
         generalize w42.drew = w43 at HO411 BK418 BK425 HB hHeld ⊢
         refine take_ (i := 0) (N := some 40) (v := ?_) (a' := ?_) (b_ 32 1) rfl rfl (take_ofW HT_.out HW_.out (by kernel_rfl)) (fun _ _ _ h => h) (Or.inl ⟨by rfl, ?_⟩) hHeld ?_ ?_
         rotate_left
         ·
          rintro w' ⟨s0, s1, s2, s3, s4, s5, s6, s7, s8, s9⟩
          go_simp
          with_reducible rfl
         rotate_left
         ·
          simp only [Act.put, sa_, s0_, s1_, i64_w, i32_w]
          rfl
         refine take_ (i := 1) (N := some 41) (v := ?_) (a' := ?_) (b_ 32 3) rfl rfl (take_ofW HT_.out HW_.out (by kernel_rfl)) (fun _ _ _ h => h) (Or.inl ⟨by rfl, ?_⟩) hHeld ?_ ?_
         rotate_left
         ·
          rintro w' ⟨s0, s1, s2, s3, s4, s5, s6, s7, s8, s9⟩
          go_simp
          with_reducible rfl
         rotate_left
         ·
          simp only [Act.put, sa_, s0_, s1_, i64_w, i32_w]
          rfl
         refine pA_ 2 42 ?_ (b_ 32 7) (any_of HT_.out (by kernel_rfl)) rfl rfl (fun _ _ _ h => h) (by rfl) ?_ ?_ ?_ ?_
         rotate_left
         ·
          intro w'
          go_simp
          with_reducible rfl
         rotate_left
         ·
          simp only [Act.put, sa_, s0_, s1_, i64_w, i32_w]
          rfl
         refine pA_ 3 43 ?_ (b_ 32 15) (any_of HT_.out (by kernel_rfl)) rfl rfl (fun _ _ _ h => h) (by rfl) ?_ ?_ ?_ ?_
         rotate_left
         ·
          intro w'
          go_simp
          with_reducible rfl
         rotate_left
         ·
          simp only [Act.put, sa_, s0_, s1_, i64_w, i32_w]
          rfl
         refine pA_ 4 44 ?_ (b_ 32 31) (any_of HT_.out (by kernel_rfl)) rfl rfl (fun _ _ _ h => h) (by rfl) ?_ ?_ ?_ ?_
         rotate_left
         ·
          intro w'
          go_simp
          with_reducible rfl
         rotate_left
         ·
          simp only [Act.put, sa_, s0_, s1_, i64_w, i32_w]
          rfl
         refine pA_ 5 45 ?_ (b_ 32 63) (any_of HT_.out (by kernel_rfl)) rfl rfl (fun _ _ _ h => h) (by rfl) ?_ ?_ ?_ ?_
         rotate_left
         ·
          intro w'
          go_simp
          with_reducible rfl
         rotate_left
         ·
          simp only [Act.put, sa_, s0_, s1_, i64_w, i32_w]
          rfl
         refine pA_ 6 46 ?_ (b_ 32 127) (any_of HT_.out (by kernel_rfl)) rfl rfl (fun _ _ _ h => h) (by rfl) ?_ ?_ ?_ ?_
         rotate_left
         ·
          intro w'
          go_simp
          with_reducible rfl
         rotate_left
         ·
          simp only [Act.put, sa_, s0_, s1_, i64_w, i32_w]
          rfl
         refine pA_ 7 47 ?_ (b_ 32 255) (any_of HT_.out (by kernel_rfl)) rfl rfl (fun _ _ _ h => h) (by rfl) ?_ ?_ ?_ ?_
         rotate_left
         ·
          intro w'
          go_simp
          with_reducible rfl
         rotate_left
         ·
          simp only [Act.put, sa_, s0_, s1_, i64_w, i32_w]
          rfl
         refine pA_ 8 48 ?_ (b_ 32 511) (any_of HT_.out (by kernel_rfl)) rfl rfl (fun _ _ _ h => h) (by rfl) ?_ ?_ ?_ ?_
         rotate_left
         ·
          intro w'
          go_simp
          with_reducible rfl
         rotate_left
         ·
          simp only [Act.put, sa_, s0_, s1_, i64_w, i32_w]
          rfl
         refine pA_ 9 49 ?_ (b_ 32 1023) (any_of HT_.out (by kernel_rfl)) rfl rfl (fun _ _ _ h => h) (by rfl) ?_ ?_ ?_ ?_
         rotate_left
         ·
          intro w'
          go_simp
          with_reducible rfl
         rotate_left
         ·
          simp only [Act.put, sa_, s0_, s1_, i64_w, i32_w]
          rfl
         refine pA_ 10 50 ?_ (b_ 32 2047) (any_of HT_.out (by kernel_rfl)) rfl rfl (fun _ _ _ h => h) (by rfl) ?_ ?_ ?_ ?_
         rotate_left
         ·
          intro w'
          go_simp
          with_reducible rfl
         rotate_left
         ·
          simp only [Act.put, sa_, s0_, s1_, i64_w, i32_w]
          rfl
         refine pA_ 11 51 ?_ (b_ 32 4095) (any_of HT_.out (by kernel_rfl)) rfl rfl (fun _ _ _ h => h) (by rfl) ?_ ?_ ?_ ?_
         rotate_left
         ·
          intro w'
          go_simp
          with_reducible rfl
         rotate_left
         ·
          simp only [Act.put, sa_, s0_, s1_, i64_w, i32_w]
          rfl
         refine pA_ 12 52 ?_ (b_ 32 8191) (any_of HT_.out (by kernel_rfl)) rfl rfl (fun _ _ _ h => h) (by rfl) ?_ ?_ ?_ ?_
         rotate_left
         ·
          intro w'
          go_simp
          with_reducible rfl
         rotate_left
         ·
          simp only [Act.put, sa_, s0_, s1_, i64_w, i32_w]
          rfl
         refine pA_ 13 53 ?_ (b_ 32 16383) (any_of HT_.out (by kernel_rfl)) rfl rfl (fun _ _ _ h => h) (by rfl) ?_ ?_ ?_ ?_
         rotate_left
         ·
          intro w'
          go_simp
          with_reducible rfl
         rotate_left
         ·
          simp only [Act.put, sa_, s0_, s1_, i64_w, i32_w]
          rfl
         refine pA_ 14 54 ?_ (b_ 32 32767) (any_of HT_.out (by kernel_rfl)) rfl rfl (fun _ _ _ h => h) (by rfl) ?_ ?_ ?_ ?_
         rotate_left
         ·
          intro w'
          go_simp
          with_reducible rfl
         rotate_left
         ·
          simp only [Act.put, sa_, s0_, s1_, i64_w, i32_w]
          rfl
         refine pA_ 15 55 ?_ (b_ 32 65535) (any_of HT_.out (by kernel_rfl)) rfl rfl (fun _ _ _ h => h) (by rfl) ?_ ?_ ?_ ?_
         rotate_left
         ·
          intro w'
          go_simp
          with_reducible rfl
         rotate_left
         ·
          simp only [Act.put, sa_, s0_, s1_, i64_w, i32_w]
          rfl
         refine take_ (i := 16) (N := some 56) (v := ?_) (a' := ?_) (b_ 32 131071) rfl rfl (take_ofW HT_.out HW_.out (by kernel_rfl)) (fun _ _ _ h => h) (Or.inl ⟨by rfl, ?_⟩) hHeld ?_ ?_
         rotate_left
         ·
          rintro w' ⟨s0, s1, s2, s3, s4, s5, s6, s7, s8, s9⟩
          go_simp
          with_reducible rfl
         rotate_left
         ·
          simp only [Act.put, sa_, s0_, s1_, i64_w, i32_w]
          rfl
         refine pA_ 18 58 ?_ (b_ 32 393215) (any_of HT_.out (by kernel_rfl)) rfl rfl (fun _ _ _ h => h) (by rfl) ?_ ?_ ?_ ?_
         rotate_left
         ·
          intro w'
          go_simp
          with_reducible rfl
         rotate_left
         ·
          simp only [Act.put, sa_, s0_, s1_, i64_w, i32_w]
          rfl
         refine pA_ 19 59 ?_ (b_ 32 917503) (any_of HT_.out (by kernel_rfl)) rfl rfl (fun _ _ _ h => h) (by rfl) ?_ ?_ ?_ ?_
         rotate_left
         ·
          intro w'
          go_simp
          with_reducible rfl
         rotate_left
         ·
          simp only [Act.put, sa_, s0_, s1_, i64_w, i32_w]
          rfl
         refine take_ (i := 20) (N := some 60) (v := ?_) (a' := ?_) (b_ 32 1966079) rfl rfl (take_ofW HT_.out HW_.out (by kernel_rfl)) (fun _ _ _ h => h) (Or.inl ⟨by rfl, ?_⟩) hHeld ?_ ?_
         rotate_left
         ·
          rintro w' ⟨s0, s1, s2, s3, s4, s5, s6, s7, s8, s9⟩
          go_simp
          with_reducible rfl
         rotate_left
         ·
          simp only [Act.put, sa_, s0_, s1_, i64_w, i32_w]
          rfl
         refine one_ (i := 17) (N := some 57) (b_ 32 2097151) rfl rfl (one_of HT_.out (by kernel_rfl)) (by decide) (fun K hK => ?_)
         refine goes_ Try.func17 (by kernel_rfl) rfl #[.string a1, .string (strOfNums y409)] (by rfl) rfl rfl (by (try simp only [List.map_toArray, List.map_cons, List.map_nil]); first | done | rfl | (simp only [List.length_drop, List.length_take]; rfl)) ?_
         with_reducible refine (block_Common.calls kj3 a1 (strOfNums y409) t426 _ A13.out).mono ?_
         rintro e w45 ⟨rfl, hb⟩
         refine ⟨_, rfl, ?_⟩
         have n0_ := Aside0.mk (Kd.R_below (by (with_reducible repeat (first | apply Kd.R_alloc | apply Kd.R_drewN | apply Kd.R_drew)); exact HO411.out) hb)
         have n1_ := Aside0.mk (blk_below (g := gb418) (o := .cells #[.string t412, .int .i64 t413, .bool t414, .string t415] 39 (0, 0)) (by (with_reducible repeat (first | refine blk_drewN ?_ _ | refine blk_drew ?_ | refine blk_alloc ?_ _)); exact BK418.out) hb)
         have n2_ := Aside0.mk (blk_below (g := gb425) (o := .cells #[.string t419, .int .i64 t420, .bool t421, .string t422] 39 (0, 0)) (by (with_reducible repeat (first | refine blk_drewN ?_ _ | refine blk_drew ?_ | refine blk_alloc ?_ _)); exact BK425.out) hb)
         have n3_ := Aside0.mk (below_step (by repeat (first | (with_reducible first | exact HB.out | apply below_alloc | apply pw_below_drewN | apply below_drew1 | refine below_set ?_ GE418.out | refine below_set ?_ GE425.out) | exact HB.out)) hb)
         clear HO411
         clear BK418
         clear BK425
         clear HB
         have HO411 := n0_
         have BK418 := n1_
         have BK425 := n2_
         have HB := n3_
         clear n0_ n1_ n2_ n3_
         (try clear hb)
         (try clear hb2)
         (try clear hk)
         (try clear hi)
         have hcv46 := C_string_ (P := Try.prog) (A := A0) (c := c0) Try.underlying23 Try.underlying5 Try.underlying9 (Kd.C_below HR0.out HB.out)
         refine hK.out _ _ ⟨(blk_cell BK418.out 0).trans rfl, (blk_cell BK418.out 1).trans rfl, (blk_cell BK418.out 2).trans rfl, (blk_cell BK418.out 3).trans rfl, (blk_cell BK425.out 0).trans rfl, (blk_cell BK425.out 1).trans rfl, (blk_cell BK425.out 2).trans rfl, (blk_cell BK425.out 3).trans rfl, (by first | exact own_string (P := Try.prog) Try.underlying23 Try.underlying5 Try.underlying9 (Kd.own_of_R HO411.out) | exact own_string (P := Try.prog) Try.underlying23 Try.underlying5 Try.underlying9 (Kd.own_of_R (Kd.R_drewN HO411.out _))), (by first | exact (C_string_ (P := Try.prog) (A := A0) (c := c0) Try.underlying23 Try.underlying5 Try.underlying9 (Kd.C_below HR0.out HB.out)) _ rfl | exact (C_string_ (P := Try.prog) (A := A0) (c := c0) Try.underlying23 Try.underlying5 Try.underlying9 (Kd.C_drewN (Kd.C_below HR0.out HB.out) _)) _ rfl)⟩ (fun hHeld => ?_)
         clear hK K
         refine norm_ (a' := ?_) ?_ ?_
         rotate_left
         ·
          show Act.put _ (some 57) _ = _
          simp only [Act.put, sa_, s0_, s1_, i64_w, i32_w]
          rfl
         refine one_ (i := 21) (N := some 61) (b_ 32 4194303) rfl rfl (one_of HT_.out (by kernel_rfl)) (by decide) (fun K hK => ?_)
         refine goes_ Try.func19 (by kernel_rfl) rfl #[.string a1, .string (strOfNums l0)] (by rfl) rfl rfl (by (try simp only [List.map_toArray, List.map_cons, List.map_nil]); first | done | rfl | (simp only [List.length_drop, List.length_take]; rfl)) ?_
         with_reducible refine (millhandref12_Common.calls kj3 a1 (strOfNums l0) t427 _ A14.out).mono ?_
         rintro e w' ⟨rfl, ⟨nd, rfl⟩⟩
         refine ⟨_, rfl, ?_⟩
         refine hK.out _ _ ⟨(blk_cell BK418.out 0).trans rfl, (blk_cell BK418.out 1).trans rfl, (blk_cell BK418.out 2).trans rfl, (blk_cell BK418.out 3).trans rfl, (blk_cell BK425.out 0).trans rfl, (blk_cell BK425.out 1).trans rfl, (blk_cell BK425.out 2).trans rfl, (blk_cell BK425.out 3).trans rfl, (by first | exact own_string (P := Try.prog) Try.underlying23 Try.underlying5 Try.underlying9 (Kd.own_of_R HO411.out) | exact own_string (P := Try.prog) Try.underlying23 Try.underlying5 Try.underlying9 (Kd.own_of_R (Kd.R_drewN HO411.out _))), (by first | exact (C_string_ (P := Try.prog) (A := A0) (c := c0) Try.underlying23 Try.underlying5 Try.underlying9 (Kd.C_below HR0.out HB.out)) _ rfl | exact (C_string_ (P := Try.prog) (A := A0) (c := c0) Try.underlying23 Try.underlying5 Try.underlying9 (Kd.C_drewN (Kd.C_below HR0.out HB.out) _)) _ rfl)⟩ (fun hHeld => ?_)
         clear hK K
         refine norm_ (a' := ?_) ?_ ?_
         rotate_left
         ·
          show Act.put _ (some 61) _ = _
          simp only [Act.put, sa_, s0_, s1_, i64_w, i32_w]
          rfl
         refine pA_ 22 62 ?_ (b_ 32 8388607) (any_of HT_.out (by kernel_rfl)) rfl rfl (fun _ _ _ h => h) (by rfl) ?_ ?_ ?_ ?_
         rotate_left
         ·
          intro w'
          go_simp
          with_reducible rfl
         rotate_left
         ·
          simp only [Act.put, sa_, s0_, s1_, i64_w, i32_w]
          rfl
         refine pA_ 23 63 ?_ (b_ 32 16777215) (any_of HT_.out (by kernel_rfl)) rfl rfl (fun _ _ _ h => h) (by rfl) ?_ ?_ ?_ ?_
         rotate_left
         ·
          intro w'
          go_simp
          with_reducible rfl
         rotate_left
         ·
          simp only [Act.put, sa_, s0_, s1_, i64_w, i32_w]
          rfl
         refine pA_ 24 64 ?_ (b_ 32 33554431) (any_of HT_.out (by kernel_rfl)) rfl rfl (fun _ _ _ h => h) (by rfl) ?_ ?_ ?_ ?_
         rotate_left
         ·
          intro w'
          go_simp
          with_reducible rfl
         rotate_left
         ·
          simp only [Act.put, sa_, s0_, s1_, i64_w, i32_w]
          rfl
         refine pB_ 25 65 ?_ (b_ 32 67108863) (any_of HT_.out (by kernel_rfl)) rfl rfl (fun _ _ _ h => h) (by rfl) ?_ ?_
         rotate_left
         ·
          simp only [Act.put, sa_, s0_, s1_, i64_w, i32_w]
          rfl
         refine pB_ 26 66 ?_ (b_ 32 134217727) (any_of HT_.out (by kernel_rfl)) rfl rfl (fun _ _ _ h => h) (by rfl) ?_ ?_
         rotate_left
         ·
          simp only [Act.put, sa_, s0_, s1_, i64_w, i32_w]
          rfl
         refine pB_ 27 67 ?_ (b_ 32 268435455) (any_of HT_.out (by kernel_rfl)) rfl rfl (fun _ _ _ h => h) (by rfl) ?_ ?_
         rotate_left
         ·
          simp only [Act.put, sa_, s0_, s1_, i64_w, i32_w]
          rfl
         refine pB_ 28 68 ?_ (b_ 32 536870911) (any_of HT_.out (by kernel_rfl)) rfl rfl (fun _ _ _ h => h) (by rfl) ?_ ?_
         rotate_left
         ·
          simp only [Act.put, sa_, s0_, s1_, i64_w, i32_w]
          rfl
         refine pB_ 29 69 ?_ (b_ 32 1073741823) (any_of HT_.out (by kernel_rfl)) rfl rfl (fun _ _ _ h => h) (by rfl) ?_ ?_
         rotate_left
         ·
          simp only [Act.put, sa_, s0_, s1_, i64_w, i32_w]
          rfl
         refine pA_ 30 70 ?_ (b_ 32 2147483647) (any_of HT_.out (by kernel_rfl)) rfl rfl (fun _ _ _ h => h) (by rfl) ?_ ?_ ?_ ?_
         rotate_left
         ·
          intro w'
          go_simp
          with_reducible rfl
         rotate_left
         ·
          simp only [Act.put, sa_, s0_, s1_, i64_w, i32_w]
          rfl
         refine pA_ 31 6 ?_ (b_ 32 4294967295) (any_of HT_.out (by kernel_rfl)) rfl rfl (fun _ _ _ h => h) (by rfl) ?_ ?_ ?_ ?_
         rotate_left
         ·
          intro w'
          go_simp
          with_reducible rfl
         rotate_left
         ·
          simp only [Act.put, sa_, s0_, s1_, i64_w, i32_w]
          rfl
         refine done_ (done_of HT_.out (by kernel_rfl)) ?_
         try go_wp2
         go_ret
         exact ⟨by first | rfl | (simp [errW_none, errW_some] <;> rfl) | (simp [*, errW_none, errW_some] <;> rfl) | exact ret_ie _ | (simp [*, errW_none, errW_some, bne]; done), by repeat (first | (with_reducible first | exact HB.out | apply below_alloc | apply pw_below_drewN | apply below_drew1 | refine below_set ?_ GE418.out | refine below_set ?_ GE425.out) | exact HB.out)⟩
       ·
        rw [if_neg c12] at H
        have c12b0 : (t417 == t424) = false := beq_eq_false_iff_ne.mpr c12
        have c12b1 : (t417 != t424) = true := bne_iff_ne.mpr c12
        obtain rfl := Option.some.inj H
        try go_wp2_with (first | ((with_reducible refine gate_builtin (b := .append) (xs := #[.const (.slice none 0 0), .tmp 22]) rfl ?_); (try (refine gate_guard (by rfl) ?_; dsimp only)); at_builtin; refine Kd.R_append_rows (Kd.int .u8) (w0 := w) w.heap.size rfl (.const (.slice none 0 0)) (.tmp 22) 23 5 (.int .u8 0) 1 rfl Try.underlying23 info5 rfl (by decide) (by omega) (.slice none 0 0) ([] : List Int) l0 _ _ _ (fun _ => True) (fun _ => False) rfl rfl ?aO ?aR (fun _ _ h => h) (fun _ h => h.elim) ?aF ?aB ?aS ?aL ?_; (case aR => repeat (first | exact (Kd.C_below HR0.out HB.out) | (with_reducible refine Kd.C_alloc ?_ _) | (with_reducible refine Kd.C_drewN ?_ _) | (with_reducible refine Kd.C_drew ?_))); (case aB => exact (by repeat (first | (with_reducible first | exact HB.out | apply below_alloc | apply pw_below_drewN | apply below_drew1) | exact HB.out))); (case aF => exact (fun _ _ => trivial)); (case aO => exact ((Kd.R_nil _ _ _ _ (fun _ => True)))); (case aS => exact (below_size (by repeat (first | (with_reducible first | exact HB.out | apply below_alloc | apply pw_below_drewN | apply below_drew1) | exact HB.out)))); (case aL => have := LMc7.out; omega); intro v410 w48 ho hb hg hat; rw [← Ny409.out] at ho; have n0_ := Aside0.mk (hb); have n1_ := Aside0.mk (ho); clear HB; have HB := n0_; have HO411 := n1_; clear n0_ n1_; clear ho hb hg hat; obtain ⟨Ao49, co49, eo49⟩ := Kd.R_slice HO411.out; subst eo49) | ((with_reducible refine gate_callee (f := 16) rfl ?_); refine goesL_ (some 28) rfl rfl Try.func16 (by kernel_rfl) rfl #[.slice Ao49 y409.length co49, .string a1, .int .i64 a2] rfl (by (try simp only [List.map_toArray, List.map_cons, List.map_nil]); first | done | rfl | (simp only [List.length_drop, List.length_take]; rfl)) ?_; (with_reducible refine (block_Find.calls kj3 _ _ y409 a1 a2 t412 t413 t414 t415 t416 t417 _ ?side1 ?side2 A8.out).mono ?_); (case side1 => repeat (first | exact (Kd.R_reads' HO411.out).2.2 | (with_reducible refine Kd.C_alloc ?_ _) | (with_reducible refine Kd.C_drewN ?_ _) | (with_reducible refine Kd.C_drew ?_))); (case side2 => exact (Kd.R_reads' HO411.out).2.1); rintro e w50 ⟨rfl, hb⟩; refine ⟨_, rfl, ?_⟩; have n0_ := Aside0.mk (Kd.R_below (by (with_reducible repeat (first | apply Kd.R_alloc | apply Kd.R_drewN | apply Kd.R_drew)); exact HO411.out) hb); have n1_ := Aside0.mk (below_step (by repeat (first | (with_reducible first | exact HB.out | apply below_alloc | apply pw_below_drewN | apply below_drew1) | exact HB.out)) hb); clear HO411; clear HB; have HO411 := n0_; have HB := n1_; clear n0_ n1_; (try clear hb); (try clear hb2); (try clear hk); (try clear hi)) | ((with_reducible refine gate_dst (N := 8) rfl ?_); (try (refine gate_guard (by rfl) ?_; dsimp only)); refine box_event ?hg (N := 8) ?hd (cs := #[.string (⟨#[]⟩ : ByteArray), .int .i64 0, .bool false, .string (⟨#[]⟩ : ByteArray)]) (t := 39) ?hr ?_; (case hd => rfl); (case hg => rfl); (case hr => first | (go_simp; done) | (go_simp; rfl)); intro gb418 hg w51 hbox hb; have n0_ := Aside0.mk (Kd.R_below (by (with_reducible repeat (first | apply Kd.R_alloc | apply Kd.R_drewN | apply Kd.R_drew)); exact HO411.out) hb); have n1_ := Aside0.mk (below_step (by repeat (first | (with_reducible first | exact HB.out | apply below_alloc | apply pw_below_drewN | apply below_drew1) | exact HB.out)) hb); have n2_ := Aside0.mk (hbox); have n3_ := Aside0.mk ((by rw [hg]; exact (below_size (by repeat (first | (with_reducible first | exact HB.out | apply below_alloc | apply pw_below_drewN | apply below_drew1) | exact HB.out))) : w.heap.size ≤ gb418)); have n4_ := Aside0.mk ((by rw [hg]; exact (below_size (by repeat (first | (with_reducible first | exact HB.out | apply below_alloc | apply pw_below_drewN | apply below_drew1) | exact HB.out))) : w.heap.size ≤ gb418)); clear HO411; clear HB; have HO411 := n0_; have HB := n1_; have BK418 := n2_; have GW418 := n3_; have GE418 := n4_; clear n0_ n1_ n2_ n3_ n4_; clear hb hbox hg; have hcz52_0 : w51.cell? ⟨gb418, 0, none⟩ = some (.string (⟨#[]⟩ : ByteArray)) := (blk_cell BK418.out 0).trans rfl; have hcz52_1 : w51.cell? ⟨gb418, 1, none⟩ = some (.int .i64 0) := (blk_cell BK418.out 1).trans rfl; have hcz52_2 : w51.cell? ⟨gb418, 2, none⟩ = some (.bool false) := (blk_cell BK418.out 2).trans rfl; have hcz52_3 : w51.cell? ⟨gb418, 3, none⟩ = some (.string (⟨#[]⟩ : ByteArray)) := (blk_cell BK418.out 3).trans rfl; have hfz52_0 := blk_frozen BK418.out 0; have hfz52_1 := blk_frozen BK418.out 1; have hfz52_2 := blk_frozen BK418.out 2; have hfz52_3 := blk_frozen BK418.out 3) | ((with_reducible refine gate_callee (f := 18) rfl ?_); refine goesL_ (some 36) rfl rfl Try.func18 (by kernel_rfl) rfl #[.slice A0 l0.length c0, .string a1, .int .i64 a2] rfl (by (try simp only [List.map_toArray, List.map_cons, List.map_nil]); first | done | rfl | (simp only [List.length_drop, List.length_take]; rfl)) ?_; (with_reducible refine (millhandref12_Find.calls kj3 _ _ l0 a1 a2 t419 t420 t421 t422 t423 t424 _ ?side1 ?side2 A9.out).mono ?_); (case side1 => exact Kd.C_below HR0.out (by repeat (first | (with_reducible first | exact HB.out | apply below_alloc | apply pw_below_drewN | apply below_drew1 | refine below_set ?_ GE418.out) | exact HB.out))); (case side2 => exact HC0.out); rintro e w53 ⟨rfl, hb⟩; refine ⟨_, rfl, ?_⟩; have n0_ := Aside0.mk (Kd.R_below (by (with_reducible repeat (first | apply Kd.R_alloc | apply Kd.R_drewN | apply Kd.R_drew)); exact (Kd.R_mono (Kd.R_far (p := ⟨gb418, 3, none⟩) (Kd.R_far (p := ⟨gb418, 2, none⟩) (Kd.R_far (p := ⟨gb418, 1, none⟩) (Kd.R_far (p := ⟨gb418, 0, none⟩) (Kd.R_types HO411.out BK418.out (by decide)) (fun _ hk => hk.2) (.string t412)) (fun _ hk => hk.2) (.int .i64 t413)) (fun _ hk => hk.2) (.bool t414)) (fun _ hk => hk.2) (.string t415)) (fun _ h_ => h_.1))) hb); have n1_ := Aside0.mk (blk_below (g := gb418) (o := .cells #[.string t412, .int .i64 t413, .bool t414, .string t415] 39 (0, 0)) (by (with_reducible repeat (first | refine blk_drewN ?_ _ | refine blk_drew ?_ | refine blk_alloc ?_ _)); refine blk_put (cs := #[.string t412, .int .i64 t413, .bool t414, .string (⟨#[]⟩ : ByteArray)]) ?_ 3 _ rfl; (with_reducible repeat (first | refine blk_drewN ?_ _ | refine blk_drew ?_ | refine blk_alloc ?_ _)); refine blk_put (cs := #[.string t412, .int .i64 t413, .bool false, .string (⟨#[]⟩ : ByteArray)]) ?_ 2 _ rfl; (with_reducible repeat (first | refine blk_drewN ?_ _ | refine blk_drew ?_ | refine blk_alloc ?_ _)); refine blk_put (cs := #[.string t412, .int .i64 0, .bool false, .string (⟨#[]⟩ : ByteArray)]) ?_ 1 _ rfl; (with_reducible repeat (first | refine blk_drewN ?_ _ | refine blk_drew ?_ | refine blk_alloc ?_ _)); refine blk_put (cs := #[.string (⟨#[]⟩ : ByteArray), .int .i64 0, .bool false, .string (⟨#[]⟩ : ByteArray)]) ?_ 0 _ rfl; (with_reducible repeat (first | refine blk_drewN ?_ _ | refine blk_drew ?_ | refine blk_alloc ?_ _)); exact BK418.out) hb); have n2_ := Aside0.mk (below_step (by repeat (first | (with_reducible first | exact HB.out | apply below_alloc | apply pw_below_drewN | apply below_drew1 | refine below_set ?_ GE418.out) | exact HB.out)) hb); clear HO411; clear BK418; clear HB; have HO411 := n0_; have BK418 := n1_; have HB := n2_; clear n0_ n1_ n2_; (try clear hb); (try clear hb2); (try clear hk); (try clear hi)) | ((with_reducible refine gate_dst (N := 11) rfl ?_); (try (refine gate_guard (by rfl) ?_; dsimp only)); refine box_event ?hg (N := 11) ?hd (cs := #[.string (⟨#[]⟩ : ByteArray), .int .i64 0, .bool false, .string (⟨#[]⟩ : ByteArray)]) (t := 39) ?hr ?_; (case hd => rfl); (case hg => rfl); (case hr => first | (go_simp; done) | (go_simp; rfl)); intro gb425 hg w54 hbox hb; have n0_ := Aside0.mk (Kd.R_below (by (with_reducible repeat (first | apply Kd.R_alloc | apply Kd.R_drewN | apply Kd.R_drew)); exact HO411.out) hb); have n1_ := Aside0.mk (blk_below (g := gb418) (o := .cells #[.string t412, .int .i64 t413, .bool t414, .string t415] 39 (0, 0)) (by (with_reducible repeat (first | refine blk_drewN ?_ _ | refine blk_drew ?_ | refine blk_alloc ?_ _)); exact BK418.out) hb); have n2_ := Aside0.mk (below_step (by repeat (first | (with_reducible first | exact HB.out | apply below_alloc | apply pw_below_drewN | apply below_drew1 | refine below_set ?_ GE418.out) | exact HB.out)) hb); have n3_ := Aside0.mk (hbox); have n4_ := Aside0.mk ((by rw [hg]; exact (below_size (by repeat (first | (with_reducible first | exact HB.out | apply below_alloc | apply pw_below_drewN | apply below_drew1 | refine below_set ?_ GE418.out) | exact HB.out))) : w.heap.size ≤ gb425)); have n5_ := Aside0.mk ((by rw [hg]; exact (below_size (by repeat (first | (with_reducible first | exact HB.out | apply below_alloc | apply pw_below_drewN | apply below_drew1 | refine below_set ?_ GE418.out) | exact HB.out))) : w.heap.size ≤ gb425)); have n6_ := Aside0.mk ((by rw [hg]; exact Nat.ne_of_lt (blk_lt (g := gb418) (o := .cells #[.string t412, .int .i64 t413, .bool t414, .string t415] 39 (0, 0)) (by (with_reducible repeat (first | refine blk_drewN ?_ _ | refine blk_drew ?_ | refine blk_alloc ?_ _)); exact BK418.out)) : gb418 ≠ gb425)); have n7_ := Aside0.mk ((by rw [hg]; exact Nat.ne_of_gt (blk_lt (g := gb418) (o := .cells #[.string t412, .int .i64 t413, .bool t414, .string t415] 39 (0, 0)) (by (with_reducible repeat (first | refine blk_drewN ?_ _ | refine blk_drew ?_ | refine blk_alloc ?_ _)); exact BK418.out)) : gb425 ≠ gb418)); clear HO411; clear BK418; clear HB; have HO411 := n0_; have BK418 := n1_; have HB := n2_; have BK425 := n3_; have GW425 := n4_; have GE425 := n5_; have NB418_425 := n6_; have NB425_418 := n7_; clear n0_ n1_ n2_ n3_ n4_ n5_ n6_ n7_; clear hb hbox hg; have hnb55 := NB425_418.out; have hnc55 := NB418_425.out; have hcz56_0 : w54.cell? ⟨gb425, 0, none⟩ = some (.string (⟨#[]⟩ : ByteArray)) := (blk_cell BK425.out 0).trans rfl; have hcz56_1 : w54.cell? ⟨gb425, 1, none⟩ = some (.int .i64 0) := (blk_cell BK425.out 1).trans rfl; have hcz56_2 : w54.cell? ⟨gb425, 2, none⟩ = some (.bool false) := (blk_cell BK425.out 2).trans rfl; have hcz56_3 : w54.cell? ⟨gb425, 3, none⟩ = some (.string (⟨#[]⟩ : ByteArray)) := (blk_cell BK425.out 3).trans rfl; have hfz56_0 := blk_frozen BK425.out 0; have hfz56_1 := blk_frozen BK425.out 1; have hfz56_2 := blk_frozen BK425.out 2; have hfz56_3 := blk_frozen BK425.out 3))
        have n0_ : Aside0 (Kd.R (Kd.int .u8) 5 ((((w54.setCell ⟨gb425, 0, none⟩ (.string t419)).setCell ⟨gb425, 1, none⟩ (.int .i64 t420)).setCell ⟨gb425, 2, none⟩ (.bool t421)).setCell ⟨gb425, 3, none⟩ (.string t422)) w.heap.size (fun _ => True) (.slice Ao49 y409.length co49) y409) := ⟨by (with_reducible repeat (first | apply Kd.R_alloc | apply Kd.R_drewN | apply Kd.R_drew)); exact Kd.R_mono (Kd.R_far (p := ⟨gb425, 3, none⟩) (Kd.R_far (p := ⟨gb425, 2, none⟩) (Kd.R_far (p := ⟨gb425, 1, none⟩) (Kd.R_far (p := ⟨gb425, 0, none⟩) (Kd.R_types HO411.out BK425.out (by decide)) (fun _ hk => hk.2) (.string t419)) (fun _ hk => hk.2) (.int .i64 t420)) (fun _ hk => hk.2) (.bool t421)) (fun _ hk => hk.2) (.string t422)) (fun _ hk => trivial)⟩
        have n1_ : Aside0 (((((w54.setCell ⟨gb425, 0, none⟩ (.string t419)).setCell ⟨gb425, 1, none⟩ (.int .i64 t420)).setCell ⟨gb425, 2, none⟩ (.bool t421)).setCell ⟨gb425, 3, none⟩ (.string t422)).heap[gb418]? = some (.cells #[.string t412, .int .i64 t413, .bool t414, .string t415] 39 (0, 0))) := ⟨by (with_reducible repeat (first | refine blk_drewN ?_ _ | refine blk_drew ?_ | refine blk_alloc ?_ _)); refine blk_far ?_ NB418_425.out _; (with_reducible repeat (first | refine blk_drewN ?_ _ | refine blk_drew ?_ | refine blk_alloc ?_ _)); refine blk_far ?_ NB418_425.out _; (with_reducible repeat (first | refine blk_drewN ?_ _ | refine blk_drew ?_ | refine blk_alloc ?_ _)); refine blk_far ?_ NB418_425.out _; (with_reducible repeat (first | refine blk_drewN ?_ _ | refine blk_drew ?_ | refine blk_alloc ?_ _)); refine blk_far ?_ NB418_425.out _; (with_reducible repeat (first | refine blk_drewN ?_ _ | refine blk_drew ?_ | refine blk_alloc ?_ _)); exact BK418.out⟩
        have n2_ : Aside0 (((((w54.setCell ⟨gb425, 0, none⟩ (.string t419)).setCell ⟨gb425, 1, none⟩ (.int .i64 t420)).setCell ⟨gb425, 2, none⟩ (.bool t421)).setCell ⟨gb425, 3, none⟩ (.string t422)).heap[gb425]? = some (.cells #[.string t419, .int .i64 t420, .bool t421, .string t422] 39 (0, 0))) := ⟨by (with_reducible repeat (first | refine blk_drewN ?_ _ | refine blk_drew ?_ | refine blk_alloc ?_ _)); refine blk_put (cs := #[.string t419, .int .i64 t420, .bool t421, .string (⟨#[]⟩ : ByteArray)]) ?_ 3 _ rfl; (with_reducible repeat (first | refine blk_drewN ?_ _ | refine blk_drew ?_ | refine blk_alloc ?_ _)); refine blk_put (cs := #[.string t419, .int .i64 t420, .bool false, .string (⟨#[]⟩ : ByteArray)]) ?_ 2 _ rfl; (with_reducible repeat (first | refine blk_drewN ?_ _ | refine blk_drew ?_ | refine blk_alloc ?_ _)); refine blk_put (cs := #[.string t419, .int .i64 0, .bool false, .string (⟨#[]⟩ : ByteArray)]) ?_ 1 _ rfl; (with_reducible repeat (first | refine blk_drewN ?_ _ | refine blk_drew ?_ | refine blk_alloc ?_ _)); refine blk_put (cs := #[.string (⟨#[]⟩ : ByteArray), .int .i64 0, .bool false, .string (⟨#[]⟩ : ByteArray)]) ?_ 0 _ rfl; (with_reducible repeat (first | refine blk_drewN ?_ _ | refine blk_drew ?_ | refine blk_alloc ?_ _)); exact BK425.out⟩
        have n3_ : Aside0 (Below w.heap.size w ((((w54.setCell ⟨gb425, 0, none⟩ (.string t419)).setCell ⟨gb425, 1, none⟩ (.int .i64 t420)).setCell ⟨gb425, 2, none⟩ (.bool t421)).setCell ⟨gb425, 3, none⟩ (.string t422))) := ⟨by repeat (first | (with_reducible first | exact HB.out | apply below_alloc | apply pw_below_drewN | apply below_drew1 | refine below_set ?_ GE418.out | refine below_set ?_ GE425.out) | exact HB.out)⟩
        (try clear HO411)
        (try clear BK418)
        (try clear BK425)
        (try clear HB)
        generalize ((((w54.setCell ⟨gb425, 0, none⟩ (.string t419)).setCell ⟨gb425, 1, none⟩ (.int .i64 t420)).setCell ⟨gb425, 2, none⟩ (.bool t421)).setCell ⟨gb425, 3, none⟩ (.string t422)) = w57 at n0_ n1_ n2_ n3_ ⊢
        have HO411 := n0_
        have BK418 := n1_
        have BK425 := n2_
        have HB := n3_
        clear n0_ n1_ n2_ n3_
        have n0_ := Aside0.mk (Kd.R_drew HO411.out)
        have n1_ := Aside0.mk (blk_drew BK418.out)
        have n2_ := Aside0.mk (blk_drew BK425.out)
        have n3_ := Aside0.mk (below_drew1 HB.out)
        clear HO411
        clear BK418
        clear BK425
        clear HB
        have HO411 := n0_
        have BK418 := n1_
        have BK425 := n2_
        have HB := n3_
        clear n0_ n1_ n2_ n3_
        refine start_ (n := 32) (S := fun w' => w'.cell? ⟨gb418, 0, none⟩ = some (.string t412) ∧ w'.cell? ⟨gb418, 1, none⟩ = some (.int .i64 t413) ∧ w'.cell? ⟨gb418, 2, none⟩ = some (.bool t414) ∧ w'.cell? ⟨gb418, 3, none⟩ = some (.string t415) ∧ w'.cell? ⟨gb425, 0, none⟩ = some (.string t419) ∧ w'.cell? ⟨gb425, 1, none⟩ = some (.int .i64 t420) ∧ w'.cell? ⟨gb425, 2, none⟩ = some (.bool t421) ∧ w'.cell? ⟨gb425, 3, none⟩ = some (.string t422)) (ds := []) (b_ 32 0) (by kernel_rfl) rfl rfl ⟨(blk_cell BK418.out 0).trans rfl, (blk_cell BK418.out 1).trans rfl, (blk_cell BK418.out 2).trans rfl, (blk_cell BK418.out 3).trans rfl, (blk_cell BK425.out 0).trans rfl, (blk_cell BK425.out 1).trans rfl, (blk_cell BK425.out 2).trans rfl, (blk_cell BK425.out 3).trans rfl⟩ (fun hHeld => ?_); refine with_tabW millhandlaw12_BlockFinds.tab6 millhandlaw12_BlockFinds.bits6 (fun HT_ HW_ => ?_)
        generalize w57.drew = w58 at HO411 BK418 BK425 HB hHeld ⊢
        refine take_ (i := 0) (N := some 40) (v := ?_) (a' := ?_) (b_ 32 1) rfl rfl (take_ofW HT_.out HW_.out (by kernel_rfl)) (fun _ _ _ h => h) (Or.inl ⟨by rfl, ?_⟩) hHeld ?_ ?_
        rotate_left
        ·
         rintro w' ⟨s0, s1, s2, s3, s4, s5, s6, s7⟩
         go_simp
         with_reducible rfl
        rotate_left
        ·
         simp only [Act.put, sa_, s0_, s1_, i64_w, i32_w]
         rfl
        refine take_ (i := 1) (N := some 41) (v := ?_) (a' := ?_) (b_ 32 3) rfl rfl (take_ofW HT_.out HW_.out (by kernel_rfl)) (fun _ _ _ h => h) (Or.inl ⟨by rfl, ?_⟩) hHeld ?_ ?_
        rotate_left
        ·
         rintro w' ⟨s0, s1, s2, s3, s4, s5, s6, s7⟩
         go_simp
         with_reducible rfl
        rotate_left
        ·
         simp only [Act.put, sa_, s0_, s1_, i64_w, i32_w]
         rfl
        refine pA_ 2 42 ?_ (b_ 32 7) (any_of HT_.out (by kernel_rfl)) rfl rfl (fun _ _ _ h => h) (by rfl) ?_ ?_ ?_ ?_
        rotate_left
        ·
         intro w'
         go_simp
         with_reducible rfl
        rotate_left
        ·
         simp only [Act.put, sa_, s0_, s1_, i64_w, i32_w]
         rfl
        refine pA_ 3 43 ?_ (b_ 32 15) (any_of HT_.out (by kernel_rfl)) rfl rfl (fun _ _ _ h => h) (by rfl) ?_ ?_ ?_ ?_
        rotate_left
        ·
         intro w'
         go_simp
         with_reducible rfl
        rotate_left
        ·
         simp only [Act.put, sa_, s0_, s1_, i64_w, i32_w]
         rfl
        refine pA_ 4 44 ?_ (b_ 32 31) (any_of HT_.out (by kernel_rfl)) rfl rfl (fun _ _ _ h => h) (by rfl) ?_ ?_ ?_ ?_
        rotate_left
        ·
         intro w'
         go_simp
         with_reducible rfl
        rotate_left
        ·
         simp only [Act.put, sa_, s0_, s1_, i64_w, i32_w]
         rfl
        refine pA_ 5 45 ?_ (b_ 32 63) (any_of HT_.out (by kernel_rfl)) rfl rfl (fun _ _ _ h => h) (by rfl) ?_ ?_ ?_ ?_
        rotate_left
        ·
         intro w'
         go_simp
         with_reducible rfl
        rotate_left
        ·
         simp only [Act.put, sa_, s0_, s1_, i64_w, i32_w]
         rfl
        refine pA_ 6 46 ?_ (b_ 32 127) (any_of HT_.out (by kernel_rfl)) rfl rfl (fun _ _ _ h => h) (by rfl) ?_ ?_ ?_ ?_
        rotate_left
        ·
         intro w'
         go_simp
         with_reducible rfl
        rotate_left
        ·
         simp only [Act.put, sa_, s0_, s1_, i64_w, i32_w]
         rfl
        refine pA_ 7 47 ?_ (b_ 32 255) (any_of HT_.out (by kernel_rfl)) rfl rfl (fun _ _ _ h => h) (by rfl) ?_ ?_ ?_ ?_
        rotate_left
        ·
         intro w'
         go_simp
         with_reducible rfl
        rotate_left
        ·
         simp only [Act.put, sa_, s0_, s1_, i64_w, i32_w]
         rfl
        refine pA_ 8 48 ?_ (b_ 32 511) (any_of HT_.out (by kernel_rfl)) rfl rfl (fun _ _ _ h => h) (by rfl) ?_ ?_ ?_ ?_
        rotate_left
        ·
         intro w'
         go_simp
         with_reducible rfl
        rotate_left
        ·
         simp only [Act.put, sa_, s0_, s1_, i64_w, i32_w]
         rfl
        refine pA_ 9 49 ?_ (b_ 32 1023) (any_of HT_.out (by kernel_rfl)) rfl rfl (fun _ _ _ h => h) (by rfl) ?_ ?_ ?_ ?_
        rotate_left
        ·
         intro w'
         go_simp
         with_reducible rfl
        rotate_left
        ·
         simp only [Act.put, sa_, s0_, s1_, i64_w, i32_w]
         rfl
        refine pA_ 10 50 ?_ (b_ 32 2047) (any_of HT_.out (by kernel_rfl)) rfl rfl (fun _ _ _ h => h) (by rfl) ?_ ?_ ?_ ?_
        rotate_left
        ·
         intro w'
         go_simp
         with_reducible rfl
        rotate_left
        ·
         simp only [Act.put, sa_, s0_, s1_, i64_w, i32_w]
         rfl
        refine pA_ 11 51 ?_ (b_ 32 4095) (any_of HT_.out (by kernel_rfl)) rfl rfl (fun _ _ _ h => h) (by rfl) ?_ ?_ ?_ ?_
        rotate_left
        ·
         intro w'
         go_simp
         with_reducible rfl
        rotate_left
        ·
         simp only [Act.put, sa_, s0_, s1_, i64_w, i32_w]
         rfl
        refine pA_ 12 52 ?_ (b_ 32 8191) (any_of HT_.out (by kernel_rfl)) rfl rfl (fun _ _ _ h => h) (by rfl) ?_ ?_ ?_ ?_
        rotate_left
        ·
         intro w'
         go_simp
         with_reducible rfl
        rotate_left
        ·
         simp only [Act.put, sa_, s0_, s1_, i64_w, i32_w]
         rfl
        refine pA_ 13 53 ?_ (b_ 32 16383) (any_of HT_.out (by kernel_rfl)) rfl rfl (fun _ _ _ h => h) (by rfl) ?_ ?_ ?_ ?_
        rotate_left
        ·
         intro w'
         go_simp
         with_reducible rfl
        rotate_left
        ·
         simp only [Act.put, sa_, s0_, s1_, i64_w, i32_w]
         rfl
        refine pB_ 14 54 ?_ (b_ 32 32767) (any_of HT_.out (by kernel_rfl)) rfl rfl (fun _ _ _ h => h) (by rfl) ?_ ?_
        rotate_left
        ·
         simp only [Act.put, sa_, s0_, s1_, i64_w, i32_w]
         rfl
        refine pB_ 15 55 ?_ (b_ 32 65535) (any_of HT_.out (by kernel_rfl)) rfl rfl (fun _ _ _ h => h) (by rfl) ?_ ?_
        rotate_left
        ·
         simp only [Act.put, sa_, s0_, s1_, i64_w, i32_w]
         rfl
        refine pB_ 16 56 ?_ (b_ 32 131071) (any_of HT_.out (by kernel_rfl)) rfl rfl (fun _ _ _ h => h) (by rfl) ?_ ?_
        rotate_left
        ·
         simp only [Act.put, sa_, s0_, s1_, i64_w, i32_w]
         rfl
        refine pB_ 17 57 ?_ (b_ 32 262143) (any_of HT_.out (by kernel_rfl)) rfl rfl (fun _ _ _ h => h) (by rfl) ?_ ?_
        rotate_left
        ·
         simp only [Act.put, sa_, s0_, s1_, i64_w, i32_w]
         rfl
        refine pB_ 18 58 ?_ (b_ 32 524287) (any_of HT_.out (by kernel_rfl)) rfl rfl (fun _ _ _ h => h) (by rfl) ?_ ?_
        rotate_left
        ·
         simp only [Act.put, sa_, s0_, s1_, i64_w, i32_w]
         rfl
        refine pB_ 19 59 ?_ (b_ 32 1048575) (any_of HT_.out (by kernel_rfl)) rfl rfl (fun _ _ _ h => h) (by rfl) ?_ ?_
        rotate_left
        ·
         simp only [Act.put, sa_, s0_, s1_, i64_w, i32_w]
         rfl
        refine pB_ 20 60 ?_ (b_ 32 2097151) (any_of HT_.out (by kernel_rfl)) rfl rfl (fun _ _ _ h => h) (by rfl) ?_ ?_
        rotate_left
        ·
         simp only [Act.put, sa_, s0_, s1_, i64_w, i32_w]
         rfl
        refine pB_ 21 61 ?_ (b_ 32 4194303) (any_of HT_.out (by kernel_rfl)) rfl rfl (fun _ _ _ h => h) (by rfl) ?_ ?_
        rotate_left
        ·
         simp only [Act.put, sa_, s0_, s1_, i64_w, i32_w]
         rfl
        refine pB_ 22 62 ?_ (b_ 32 8388607) (any_of HT_.out (by kernel_rfl)) rfl rfl (fun _ _ _ h => h) (by rfl) ?_ ?_
        rotate_left
        ·
         simp only [Act.put, sa_, s0_, s1_, i64_w, i32_w]
         rfl
        refine pA_ 23 63 ?_ (b_ 32 16777215) (any_of HT_.out (by kernel_rfl)) rfl rfl (fun _ _ _ h => h) (by rfl) ?_ ?_ ?_ ?_
        rotate_left
        ·
         intro w'
         go_simp
         with_reducible rfl
        rotate_left
        ·
         simp only [Act.put, sa_, s0_, s1_, i64_w, i32_w]
         rfl
        refine pA_ 24 64 ?_ (b_ 32 33554431) (any_of HT_.out (by kernel_rfl)) rfl rfl (fun _ _ _ h => h) (by rfl) ?_ ?_ ?_ ?_
        rotate_left
        ·
         intro w'
         go_simp
         with_reducible rfl
        rotate_left
        ·
         simp only [Act.put, sa_, s0_, s1_, i64_w, i32_w]
         rfl
        refine pB_ 25 65 ?_ (b_ 32 67108863) (any_of HT_.out (by kernel_rfl)) rfl rfl (fun _ _ _ h => h) (by rfl) ?_ ?_
        rotate_left
        ·
         simp only [Act.put, sa_, s0_, s1_, i64_w, i32_w]
         rfl
        refine pB_ 26 66 ?_ (b_ 32 134217727) (any_of HT_.out (by kernel_rfl)) rfl rfl (fun _ _ _ h => h) (by rfl) ?_ ?_
        rotate_left
        ·
         simp only [Act.put, sa_, s0_, s1_, i64_w, i32_w]
         rfl
        refine pB_ 27 67 ?_ (b_ 32 268435455) (any_of HT_.out (by kernel_rfl)) rfl rfl (fun _ _ _ h => h) (by rfl) ?_ ?_
        rotate_left
        ·
         simp only [Act.put, sa_, s0_, s1_, i64_w, i32_w]
         rfl
        refine pB_ 28 68 ?_ (b_ 32 536870911) (any_of HT_.out (by kernel_rfl)) rfl rfl (fun _ _ _ h => h) (by rfl) ?_ ?_
        rotate_left
        ·
         simp only [Act.put, sa_, s0_, s1_, i64_w, i32_w]
         rfl
        refine pB_ 29 69 ?_ (b_ 32 1073741823) (any_of HT_.out (by kernel_rfl)) rfl rfl (fun _ _ _ h => h) (by rfl) ?_ ?_
        rotate_left
        ·
         simp only [Act.put, sa_, s0_, s1_, i64_w, i32_w]
         rfl
        refine pA_ 30 70 ?_ (b_ 32 2147483647) (any_of HT_.out (by kernel_rfl)) rfl rfl (fun _ _ _ h => h) (by rfl) ?_ ?_ ?_ ?_
        rotate_left
        ·
         intro w'
         go_simp
         with_reducible rfl
        rotate_left
        ·
         simp only [Act.put, sa_, s0_, s1_, i64_w, i32_w]
         rfl
        refine pA_ 31 6 ?_ (b_ 32 4294967295) (any_of HT_.out (by kernel_rfl)) rfl rfl (fun _ _ _ h => h) (by rfl) ?_ ?_ ?_ ?_
        rotate_left
        ·
         intro w'
         go_simp
         with_reducible rfl
        rotate_left
        ·
         simp only [Act.put, sa_, s0_, s1_, i64_w, i32_w]
         rfl
        refine done_ (done_of HT_.out (by kernel_rfl)) ?_
        try go_wp2
        go_ret
        exact ⟨by first | rfl | (simp [errW_none, errW_some] <;> rfl) | (simp [*, errW_none, errW_some] <;> rfl) | exact ret_ie _ | (simp [*, errW_none, errW_some, bne]; done), by repeat (first | (with_reducible first | exact HB.out | apply below_alloc | apply pw_below_drewN | apply below_drew1 | refine below_set ?_ GE418.out | refine below_set ?_ GE425.out) | exact HB.out)⟩
      ·
       rw [if_neg c11] at H
       have c11b0 : (t416 == t423) = false := by simpa using c11
       (try (have c11b1 : decide (t416 = t423) = false := by simpa using c11))
       (try (have c11b2 : (t416 == t423) = false := by simpa using c11))
       (try (have c11b3 : ¬ (t416 = t423) := by simpa using c11))
       clear c11
       obtain rfl := Option.some.inj H
       try go_wp2_with (first | ((with_reducible refine gate_builtin (b := .append) (xs := #[.const (.slice none 0 0), .tmp 22]) rfl ?_); (try (refine gate_guard (by rfl) ?_; dsimp only)); at_builtin; refine Kd.R_append_rows (Kd.int .u8) (w0 := w) w.heap.size rfl (.const (.slice none 0 0)) (.tmp 22) 23 5 (.int .u8 0) 1 rfl Try.underlying23 info5 rfl (by decide) (by omega) (.slice none 0 0) ([] : List Int) l0 _ _ _ (fun _ => True) (fun _ => False) rfl rfl ?aO ?aR (fun _ _ h => h) (fun _ h => h.elim) ?aF ?aB ?aS ?aL ?_; (case aR => repeat (first | exact (Kd.C_below HR0.out HB.out) | (with_reducible refine Kd.C_alloc ?_ _) | (with_reducible refine Kd.C_drewN ?_ _) | (with_reducible refine Kd.C_drew ?_))); (case aB => exact (by repeat (first | (with_reducible first | exact HB.out | apply below_alloc | apply pw_below_drewN | apply below_drew1) | exact HB.out))); (case aF => exact (fun _ _ => trivial)); (case aO => exact ((Kd.R_nil _ _ _ _ (fun _ => True)))); (case aS => exact (below_size (by repeat (first | (with_reducible first | exact HB.out | apply below_alloc | apply pw_below_drewN | apply below_drew1) | exact HB.out)))); (case aL => have := LMc7.out; omega); intro v410 w59 ho hb hg hat; rw [← Ny409.out] at ho; have n0_ := Aside0.mk (hb); have n1_ := Aside0.mk (ho); clear HB; have HB := n0_; have HO411 := n1_; clear n0_ n1_; clear ho hb hg hat; obtain ⟨Ao60, co60, eo60⟩ := Kd.R_slice HO411.out; subst eo60) | ((with_reducible refine gate_callee (f := 16) rfl ?_); refine goesL_ (some 28) rfl rfl Try.func16 (by kernel_rfl) rfl #[.slice Ao60 y409.length co60, .string a1, .int .i64 a2] rfl (by (try simp only [List.map_toArray, List.map_cons, List.map_nil]); first | done | rfl | (simp only [List.length_drop, List.length_take]; rfl)) ?_; (with_reducible refine (block_Find.calls kj3 _ _ y409 a1 a2 t412 t413 t414 t415 t416 t417 _ ?side1 ?side2 A8.out).mono ?_); (case side1 => repeat (first | exact (Kd.R_reads' HO411.out).2.2 | (with_reducible refine Kd.C_alloc ?_ _) | (with_reducible refine Kd.C_drewN ?_ _) | (with_reducible refine Kd.C_drew ?_))); (case side2 => exact (Kd.R_reads' HO411.out).2.1); rintro e w61 ⟨rfl, hb⟩; refine ⟨_, rfl, ?_⟩; have n0_ := Aside0.mk (Kd.R_below (by (with_reducible repeat (first | apply Kd.R_alloc | apply Kd.R_drewN | apply Kd.R_drew)); exact HO411.out) hb); have n1_ := Aside0.mk (below_step (by repeat (first | (with_reducible first | exact HB.out | apply below_alloc | apply pw_below_drewN | apply below_drew1) | exact HB.out)) hb); clear HO411; clear HB; have HO411 := n0_; have HB := n1_; clear n0_ n1_; (try clear hb); (try clear hb2); (try clear hk); (try clear hi)) | ((with_reducible refine gate_dst (N := 8) rfl ?_); (try (refine gate_guard (by rfl) ?_; dsimp only)); refine box_event ?hg (N := 8) ?hd (cs := #[.string (⟨#[]⟩ : ByteArray), .int .i64 0, .bool false, .string (⟨#[]⟩ : ByteArray)]) (t := 39) ?hr ?_; (case hd => rfl); (case hg => rfl); (case hr => first | (go_simp; done) | (go_simp; rfl)); intro gb418 hg w62 hbox hb; have n0_ := Aside0.mk (Kd.R_below (by (with_reducible repeat (first | apply Kd.R_alloc | apply Kd.R_drewN | apply Kd.R_drew)); exact HO411.out) hb); have n1_ := Aside0.mk (below_step (by repeat (first | (with_reducible first | exact HB.out | apply below_alloc | apply pw_below_drewN | apply below_drew1) | exact HB.out)) hb); have n2_ := Aside0.mk (hbox); have n3_ := Aside0.mk ((by rw [hg]; exact (below_size (by repeat (first | (with_reducible first | exact HB.out | apply below_alloc | apply pw_below_drewN | apply below_drew1) | exact HB.out))) : w.heap.size ≤ gb418)); have n4_ := Aside0.mk ((by rw [hg]; exact (below_size (by repeat (first | (with_reducible first | exact HB.out | apply below_alloc | apply pw_below_drewN | apply below_drew1) | exact HB.out))) : w.heap.size ≤ gb418)); clear HO411; clear HB; have HO411 := n0_; have HB := n1_; have BK418 := n2_; have GW418 := n3_; have GE418 := n4_; clear n0_ n1_ n2_ n3_ n4_; clear hb hbox hg; have hcz63_0 : w62.cell? ⟨gb418, 0, none⟩ = some (.string (⟨#[]⟩ : ByteArray)) := (blk_cell BK418.out 0).trans rfl; have hcz63_1 : w62.cell? ⟨gb418, 1, none⟩ = some (.int .i64 0) := (blk_cell BK418.out 1).trans rfl; have hcz63_2 : w62.cell? ⟨gb418, 2, none⟩ = some (.bool false) := (blk_cell BK418.out 2).trans rfl; have hcz63_3 : w62.cell? ⟨gb418, 3, none⟩ = some (.string (⟨#[]⟩ : ByteArray)) := (blk_cell BK418.out 3).trans rfl; have hfz63_0 := blk_frozen BK418.out 0; have hfz63_1 := blk_frozen BK418.out 1; have hfz63_2 := blk_frozen BK418.out 2; have hfz63_3 := blk_frozen BK418.out 3) | ((with_reducible refine gate_callee (f := 18) rfl ?_); refine goesL_ (some 36) rfl rfl Try.func18 (by kernel_rfl) rfl #[.slice A0 l0.length c0, .string a1, .int .i64 a2] rfl (by (try simp only [List.map_toArray, List.map_cons, List.map_nil]); first | done | rfl | (simp only [List.length_drop, List.length_take]; rfl)) ?_; (with_reducible refine (millhandref12_Find.calls kj3 _ _ l0 a1 a2 t419 t420 t421 t422 t423 t424 _ ?side1 ?side2 A9.out).mono ?_); (case side1 => exact Kd.C_below HR0.out (by repeat (first | (with_reducible first | exact HB.out | apply below_alloc | apply pw_below_drewN | apply below_drew1 | refine below_set ?_ GE418.out) | exact HB.out))); (case side2 => exact HC0.out); rintro e w64 ⟨rfl, hb⟩; refine ⟨_, rfl, ?_⟩; have n0_ := Aside0.mk (Kd.R_below (by (with_reducible repeat (first | apply Kd.R_alloc | apply Kd.R_drewN | apply Kd.R_drew)); exact (Kd.R_mono (Kd.R_far (p := ⟨gb418, 3, none⟩) (Kd.R_far (p := ⟨gb418, 2, none⟩) (Kd.R_far (p := ⟨gb418, 1, none⟩) (Kd.R_far (p := ⟨gb418, 0, none⟩) (Kd.R_types HO411.out BK418.out (by decide)) (fun _ hk => hk.2) (.string t412)) (fun _ hk => hk.2) (.int .i64 t413)) (fun _ hk => hk.2) (.bool t414)) (fun _ hk => hk.2) (.string t415)) (fun _ h_ => h_.1))) hb); have n1_ := Aside0.mk (blk_below (g := gb418) (o := .cells #[.string t412, .int .i64 t413, .bool t414, .string t415] 39 (0, 0)) (by (with_reducible repeat (first | refine blk_drewN ?_ _ | refine blk_drew ?_ | refine blk_alloc ?_ _)); refine blk_put (cs := #[.string t412, .int .i64 t413, .bool t414, .string (⟨#[]⟩ : ByteArray)]) ?_ 3 _ rfl; (with_reducible repeat (first | refine blk_drewN ?_ _ | refine blk_drew ?_ | refine blk_alloc ?_ _)); refine blk_put (cs := #[.string t412, .int .i64 t413, .bool false, .string (⟨#[]⟩ : ByteArray)]) ?_ 2 _ rfl; (with_reducible repeat (first | refine blk_drewN ?_ _ | refine blk_drew ?_ | refine blk_alloc ?_ _)); refine blk_put (cs := #[.string t412, .int .i64 0, .bool false, .string (⟨#[]⟩ : ByteArray)]) ?_ 1 _ rfl; (with_reducible repeat (first | refine blk_drewN ?_ _ | refine blk_drew ?_ | refine blk_alloc ?_ _)); refine blk_put (cs := #[.string (⟨#[]⟩ : ByteArray), .int .i64 0, .bool false, .string (⟨#[]⟩ : ByteArray)]) ?_ 0 _ rfl; (with_reducible repeat (first | refine blk_drewN ?_ _ | refine blk_drew ?_ | refine blk_alloc ?_ _)); exact BK418.out) hb); have n2_ := Aside0.mk (below_step (by repeat (first | (with_reducible first | exact HB.out | apply below_alloc | apply pw_below_drewN | apply below_drew1 | refine below_set ?_ GE418.out) | exact HB.out)) hb); clear HO411; clear BK418; clear HB; have HO411 := n0_; have BK418 := n1_; have HB := n2_; clear n0_ n1_ n2_; (try clear hb); (try clear hb2); (try clear hk); (try clear hi)) | ((with_reducible refine gate_dst (N := 11) rfl ?_); (try (refine gate_guard (by rfl) ?_; dsimp only)); refine box_event ?hg (N := 11) ?hd (cs := #[.string (⟨#[]⟩ : ByteArray), .int .i64 0, .bool false, .string (⟨#[]⟩ : ByteArray)]) (t := 39) ?hr ?_; (case hd => rfl); (case hg => rfl); (case hr => first | (go_simp; done) | (go_simp; rfl)); intro gb425 hg w65 hbox hb; have n0_ := Aside0.mk (Kd.R_below (by (with_reducible repeat (first | apply Kd.R_alloc | apply Kd.R_drewN | apply Kd.R_drew)); exact HO411.out) hb); have n1_ := Aside0.mk (blk_below (g := gb418) (o := .cells #[.string t412, .int .i64 t413, .bool t414, .string t415] 39 (0, 0)) (by (with_reducible repeat (first | refine blk_drewN ?_ _ | refine blk_drew ?_ | refine blk_alloc ?_ _)); exact BK418.out) hb); have n2_ := Aside0.mk (below_step (by repeat (first | (with_reducible first | exact HB.out | apply below_alloc | apply pw_below_drewN | apply below_drew1 | refine below_set ?_ GE418.out) | exact HB.out)) hb); have n3_ := Aside0.mk (hbox); have n4_ := Aside0.mk ((by rw [hg]; exact (below_size (by repeat (first | (with_reducible first | exact HB.out | apply below_alloc | apply pw_below_drewN | apply below_drew1 | refine below_set ?_ GE418.out) | exact HB.out))) : w.heap.size ≤ gb425)); have n5_ := Aside0.mk ((by rw [hg]; exact (below_size (by repeat (first | (with_reducible first | exact HB.out | apply below_alloc | apply pw_below_drewN | apply below_drew1 | refine below_set ?_ GE418.out) | exact HB.out))) : w.heap.size ≤ gb425)); have n6_ := Aside0.mk ((by rw [hg]; exact Nat.ne_of_lt (blk_lt (g := gb418) (o := .cells #[.string t412, .int .i64 t413, .bool t414, .string t415] 39 (0, 0)) (by (with_reducible repeat (first | refine blk_drewN ?_ _ | refine blk_drew ?_ | refine blk_alloc ?_ _)); exact BK418.out)) : gb418 ≠ gb425)); have n7_ := Aside0.mk ((by rw [hg]; exact Nat.ne_of_gt (blk_lt (g := gb418) (o := .cells #[.string t412, .int .i64 t413, .bool t414, .string t415] 39 (0, 0)) (by (with_reducible repeat (first | refine blk_drewN ?_ _ | refine blk_drew ?_ | refine blk_alloc ?_ _)); exact BK418.out)) : gb425 ≠ gb418)); clear HO411; clear BK418; clear HB; have HO411 := n0_; have BK418 := n1_; have HB := n2_; have BK425 := n3_; have GW425 := n4_; have GE425 := n5_; have NB418_425 := n6_; have NB425_418 := n7_; clear n0_ n1_ n2_ n3_ n4_ n5_ n6_ n7_; clear hb hbox hg; have hnb66 := NB425_418.out; have hnc66 := NB418_425.out; have hcz67_0 : w65.cell? ⟨gb425, 0, none⟩ = some (.string (⟨#[]⟩ : ByteArray)) := (blk_cell BK425.out 0).trans rfl; have hcz67_1 : w65.cell? ⟨gb425, 1, none⟩ = some (.int .i64 0) := (blk_cell BK425.out 1).trans rfl; have hcz67_2 : w65.cell? ⟨gb425, 2, none⟩ = some (.bool false) := (blk_cell BK425.out 2).trans rfl; have hcz67_3 : w65.cell? ⟨gb425, 3, none⟩ = some (.string (⟨#[]⟩ : ByteArray)) := (blk_cell BK425.out 3).trans rfl; have hfz67_0 := blk_frozen BK425.out 0; have hfz67_1 := blk_frozen BK425.out 1; have hfz67_2 := blk_frozen BK425.out 2; have hfz67_3 := blk_frozen BK425.out 3))
       have n0_ : Aside0 (Kd.R (Kd.int .u8) 5 ((((w65.setCell ⟨gb425, 0, none⟩ (.string t419)).setCell ⟨gb425, 1, none⟩ (.int .i64 t420)).setCell ⟨gb425, 2, none⟩ (.bool t421)).setCell ⟨gb425, 3, none⟩ (.string t422)) w.heap.size (fun _ => True) (.slice Ao60 y409.length co60) y409) := ⟨by (with_reducible repeat (first | apply Kd.R_alloc | apply Kd.R_drewN | apply Kd.R_drew)); exact Kd.R_mono (Kd.R_far (p := ⟨gb425, 3, none⟩) (Kd.R_far (p := ⟨gb425, 2, none⟩) (Kd.R_far (p := ⟨gb425, 1, none⟩) (Kd.R_far (p := ⟨gb425, 0, none⟩) (Kd.R_types HO411.out BK425.out (by decide)) (fun _ hk => hk.2) (.string t419)) (fun _ hk => hk.2) (.int .i64 t420)) (fun _ hk => hk.2) (.bool t421)) (fun _ hk => hk.2) (.string t422)) (fun _ hk => trivial)⟩
       have n1_ : Aside0 (((((w65.setCell ⟨gb425, 0, none⟩ (.string t419)).setCell ⟨gb425, 1, none⟩ (.int .i64 t420)).setCell ⟨gb425, 2, none⟩ (.bool t421)).setCell ⟨gb425, 3, none⟩ (.string t422)).heap[gb418]? = some (.cells #[.string t412, .int .i64 t413, .bool t414, .string t415] 39 (0, 0))) := ⟨by (with_reducible repeat (first | refine blk_drewN ?_ _ | refine blk_drew ?_ | refine blk_alloc ?_ _)); refine blk_far ?_ NB418_425.out _; (with_reducible repeat (first | refine blk_drewN ?_ _ | refine blk_drew ?_ | refine blk_alloc ?_ _)); refine blk_far ?_ NB418_425.out _; (with_reducible repeat (first | refine blk_drewN ?_ _ | refine blk_drew ?_ | refine blk_alloc ?_ _)); refine blk_far ?_ NB418_425.out _; (with_reducible repeat (first | refine blk_drewN ?_ _ | refine blk_drew ?_ | refine blk_alloc ?_ _)); refine blk_far ?_ NB418_425.out _; (with_reducible repeat (first | refine blk_drewN ?_ _ | refine blk_drew ?_ | refine blk_alloc ?_ _)); exact BK418.out⟩
       have n2_ : Aside0 (((((w65.setCell ⟨gb425, 0, none⟩ (.string t419)).setCell ⟨gb425, 1, none⟩ (.int .i64 t420)).setCell ⟨gb425, 2, none⟩ (.bool t421)).setCell ⟨gb425, 3, none⟩ (.string t422)).heap[gb425]? = some (.cells #[.string t419, .int .i64 t420, .bool t421, .string t422] 39 (0, 0))) := ⟨by (with_reducible repeat (first | refine blk_drewN ?_ _ | refine blk_drew ?_ | refine blk_alloc ?_ _)); refine blk_put (cs := #[.string t419, .int .i64 t420, .bool t421, .string (⟨#[]⟩ : ByteArray)]) ?_ 3 _ rfl; (with_reducible repeat (first | refine blk_drewN ?_ _ | refine blk_drew ?_ | refine blk_alloc ?_ _)); refine blk_put (cs := #[.string t419, .int .i64 t420, .bool false, .string (⟨#[]⟩ : ByteArray)]) ?_ 2 _ rfl; (with_reducible repeat (first | refine blk_drewN ?_ _ | refine blk_drew ?_ | refine blk_alloc ?_ _)); refine blk_put (cs := #[.string t419, .int .i64 0, .bool false, .string (⟨#[]⟩ : ByteArray)]) ?_ 1 _ rfl; (with_reducible repeat (first | refine blk_drewN ?_ _ | refine blk_drew ?_ | refine blk_alloc ?_ _)); refine blk_put (cs := #[.string (⟨#[]⟩ : ByteArray), .int .i64 0, .bool false, .string (⟨#[]⟩ : ByteArray)]) ?_ 0 _ rfl; (with_reducible repeat (first | refine blk_drewN ?_ _ | refine blk_drew ?_ | refine blk_alloc ?_ _)); exact BK425.out⟩
       have n3_ : Aside0 (Below w.heap.size w ((((w65.setCell ⟨gb425, 0, none⟩ (.string t419)).setCell ⟨gb425, 1, none⟩ (.int .i64 t420)).setCell ⟨gb425, 2, none⟩ (.bool t421)).setCell ⟨gb425, 3, none⟩ (.string t422))) := ⟨by repeat (first | (with_reducible first | exact HB.out | apply below_alloc | apply pw_below_drewN | apply below_drew1 | refine below_set ?_ GE418.out | refine below_set ?_ GE425.out) | exact HB.out)⟩
       (try clear HO411)
       (try clear BK418)
       (try clear BK425)
       (try clear HB)
       generalize ((((w65.setCell ⟨gb425, 0, none⟩ (.string t419)).setCell ⟨gb425, 1, none⟩ (.int .i64 t420)).setCell ⟨gb425, 2, none⟩ (.bool t421)).setCell ⟨gb425, 3, none⟩ (.string t422)) = w68 at n0_ n1_ n2_ n3_ ⊢
       have HO411 := n0_
       have BK418 := n1_
       have BK425 := n2_
       have HB := n3_
       clear n0_ n1_ n2_ n3_
       have n0_ := Aside0.mk (Kd.R_drew HO411.out)
       have n1_ := Aside0.mk (blk_drew BK418.out)
       have n2_ := Aside0.mk (blk_drew BK425.out)
       have n3_ := Aside0.mk (below_drew1 HB.out)
       clear HO411
       clear BK418
       clear BK425
       clear HB
       have HO411 := n0_
       have BK418 := n1_
       have BK425 := n2_
       have HB := n3_
       clear n0_ n1_ n2_ n3_
       refine start_ (n := 32) (S := fun w' => w'.cell? ⟨gb418, 0, none⟩ = some (.string t412) ∧ w'.cell? ⟨gb418, 1, none⟩ = some (.int .i64 t413) ∧ w'.cell? ⟨gb418, 2, none⟩ = some (.bool t414) ∧ w'.cell? ⟨gb418, 3, none⟩ = some (.string t415) ∧ w'.cell? ⟨gb425, 0, none⟩ = some (.string t419) ∧ w'.cell? ⟨gb425, 1, none⟩ = some (.int .i64 t420) ∧ w'.cell? ⟨gb425, 2, none⟩ = some (.bool t421) ∧ w'.cell? ⟨gb425, 3, none⟩ = some (.string t422)) (ds := []) (b_ 32 0) (by kernel_rfl) rfl rfl ⟨(blk_cell BK418.out 0).trans rfl, (blk_cell BK418.out 1).trans rfl, (blk_cell BK418.out 2).trans rfl, (blk_cell BK418.out 3).trans rfl, (blk_cell BK425.out 0).trans rfl, (blk_cell BK425.out 1).trans rfl, (blk_cell BK425.out 2).trans rfl, (blk_cell BK425.out 3).trans rfl⟩ (fun hHeld => ?_); refine with_tabW millhandlaw12_BlockFinds.tab6 millhandlaw12_BlockFinds.bits6 (fun HT_ HW_ => ?_)
       generalize w68.drew = w69 at HO411 BK418 BK425 HB hHeld ⊢
       refine take_ (i := 0) (N := some 40) (v := ?_) (a' := ?_) (b_ 32 1) rfl rfl (take_ofW HT_.out HW_.out (by kernel_rfl)) (fun _ _ _ h => h) (Or.inl ⟨by rfl, ?_⟩) hHeld ?_ ?_
       rotate_left
       ·
        rintro w' ⟨s0, s1, s2, s3, s4, s5, s6, s7⟩
        go_simp
        with_reducible rfl
       rotate_left
       ·
        simp only [Act.put, sa_, s0_, s1_, i64_w, i32_w]
        rfl
       refine take_ (i := 1) (N := some 41) (v := ?_) (a' := ?_) (b_ 32 3) rfl rfl (take_ofW HT_.out HW_.out (by kernel_rfl)) (fun _ _ _ h => h) (Or.inl ⟨by rfl, ?_⟩) hHeld ?_ ?_
       rotate_left
       ·
        rintro w' ⟨s0, s1, s2, s3, s4, s5, s6, s7⟩
        go_simp
        with_reducible rfl
       rotate_left
       ·
        simp only [Act.put, sa_, s0_, s1_, i64_w, i32_w]
        rfl
       refine pA_ 2 42 ?_ (b_ 32 7) (any_of HT_.out (by kernel_rfl)) rfl rfl (fun _ _ _ h => h) (by rfl) ?_ ?_ ?_ ?_
       rotate_left
       ·
        intro w'
        go_simp
        with_reducible rfl
       rotate_left
       ·
        simp only [Act.put, sa_, s0_, s1_, i64_w, i32_w]
        rfl
       refine pA_ 3 43 ?_ (b_ 32 15) (any_of HT_.out (by kernel_rfl)) rfl rfl (fun _ _ _ h => h) (by rfl) ?_ ?_ ?_ ?_
       rotate_left
       ·
        intro w'
        go_simp
        with_reducible rfl
       rotate_left
       ·
        simp only [Act.put, sa_, s0_, s1_, i64_w, i32_w]
        rfl
       refine pA_ 4 44 ?_ (b_ 32 31) (any_of HT_.out (by kernel_rfl)) rfl rfl (fun _ _ _ h => h) (by rfl) ?_ ?_ ?_ ?_
       rotate_left
       ·
        intro w'
        go_simp
        with_reducible rfl
       rotate_left
       ·
        simp only [Act.put, sa_, s0_, s1_, i64_w, i32_w]
        rfl
       refine pA_ 5 45 ?_ (b_ 32 63) (any_of HT_.out (by kernel_rfl)) rfl rfl (fun _ _ _ h => h) (by rfl) ?_ ?_ ?_ ?_
       rotate_left
       ·
        intro w'
        go_simp
        with_reducible rfl
       rotate_left
       ·
        simp only [Act.put, sa_, s0_, s1_, i64_w, i32_w]
        rfl
       refine pA_ 6 46 ?_ (b_ 32 127) (any_of HT_.out (by kernel_rfl)) rfl rfl (fun _ _ _ h => h) (by rfl) ?_ ?_ ?_ ?_
       rotate_left
       ·
        intro w'
        go_simp
        with_reducible rfl
       rotate_left
       ·
        simp only [Act.put, sa_, s0_, s1_, i64_w, i32_w]
        rfl
       refine pA_ 7 47 ?_ (b_ 32 255) (any_of HT_.out (by kernel_rfl)) rfl rfl (fun _ _ _ h => h) (by rfl) ?_ ?_ ?_ ?_
       rotate_left
       ·
        intro w'
        go_simp
        with_reducible rfl
       rotate_left
       ·
        simp only [Act.put, sa_, s0_, s1_, i64_w, i32_w]
        rfl
       refine pA_ 8 48 ?_ (b_ 32 511) (any_of HT_.out (by kernel_rfl)) rfl rfl (fun _ _ _ h => h) (by rfl) ?_ ?_ ?_ ?_
       rotate_left
       ·
        intro w'
        go_simp
        with_reducible rfl
       rotate_left
       ·
        simp only [Act.put, sa_, s0_, s1_, i64_w, i32_w]
        rfl
       refine pB_ 9 49 ?_ (b_ 32 1023) (any_of HT_.out (by kernel_rfl)) rfl rfl (fun _ _ _ h => h) (by rfl) ?_ ?_
       rotate_left
       ·
        simp only [Act.put, sa_, s0_, s1_, i64_w, i32_w]
        rfl
       refine pB_ 10 50 ?_ (b_ 32 2047) (any_of HT_.out (by kernel_rfl)) rfl rfl (fun _ _ _ h => h) (by rfl) ?_ ?_
       rotate_left
       ·
        simp only [Act.put, sa_, s0_, s1_, i64_w, i32_w]
        rfl
       refine pB_ 11 51 ?_ (b_ 32 4095) (any_of HT_.out (by kernel_rfl)) rfl rfl (fun _ _ _ h => h) (by rfl) ?_ ?_
       rotate_left
       ·
        simp only [Act.put, sa_, s0_, s1_, i64_w, i32_w]
        rfl
       refine pA_ 12 52 ?_ (b_ 32 8191) (any_of HT_.out (by kernel_rfl)) rfl rfl (fun _ _ _ h => h) (by rfl) ?_ ?_ ?_ ?_
       rotate_left
       ·
        intro w'
        go_simp
        with_reducible rfl
       rotate_left
       ·
        simp only [Act.put, sa_, s0_, s1_, i64_w, i32_w]
        rfl
       refine pA_ 13 53 ?_ (b_ 32 16383) (any_of HT_.out (by kernel_rfl)) rfl rfl (fun _ _ _ h => h) (by rfl) ?_ ?_ ?_ ?_
       rotate_left
       ·
        intro w'
        go_simp
        with_reducible rfl
       rotate_left
       ·
        simp only [Act.put, sa_, s0_, s1_, i64_w, i32_w]
        rfl
       refine pB_ 14 54 ?_ (b_ 32 32767) (any_of HT_.out (by kernel_rfl)) rfl rfl (fun _ _ _ h => h) (by rfl) ?_ ?_
       rotate_left
       ·
        simp only [Act.put, sa_, s0_, s1_, i64_w, i32_w]
        rfl
       refine pB_ 15 55 ?_ (b_ 32 65535) (any_of HT_.out (by kernel_rfl)) rfl rfl (fun _ _ _ h => h) (by rfl) ?_ ?_
       rotate_left
       ·
        simp only [Act.put, sa_, s0_, s1_, i64_w, i32_w]
        rfl
       refine pB_ 16 56 ?_ (b_ 32 131071) (any_of HT_.out (by kernel_rfl)) rfl rfl (fun _ _ _ h => h) (by rfl) ?_ ?_
       rotate_left
       ·
        simp only [Act.put, sa_, s0_, s1_, i64_w, i32_w]
        rfl
       refine pB_ 17 57 ?_ (b_ 32 262143) (any_of HT_.out (by kernel_rfl)) rfl rfl (fun _ _ _ h => h) (by rfl) ?_ ?_
       rotate_left
       ·
        simp only [Act.put, sa_, s0_, s1_, i64_w, i32_w]
        rfl
       refine pB_ 18 58 ?_ (b_ 32 524287) (any_of HT_.out (by kernel_rfl)) rfl rfl (fun _ _ _ h => h) (by rfl) ?_ ?_
       rotate_left
       ·
        simp only [Act.put, sa_, s0_, s1_, i64_w, i32_w]
        rfl
       refine pB_ 19 59 ?_ (b_ 32 1048575) (any_of HT_.out (by kernel_rfl)) rfl rfl (fun _ _ _ h => h) (by rfl) ?_ ?_
       rotate_left
       ·
        simp only [Act.put, sa_, s0_, s1_, i64_w, i32_w]
        rfl
       refine pB_ 20 60 ?_ (b_ 32 2097151) (any_of HT_.out (by kernel_rfl)) rfl rfl (fun _ _ _ h => h) (by rfl) ?_ ?_
       rotate_left
       ·
        simp only [Act.put, sa_, s0_, s1_, i64_w, i32_w]
        rfl
       refine pB_ 21 61 ?_ (b_ 32 4194303) (any_of HT_.out (by kernel_rfl)) rfl rfl (fun _ _ _ h => h) (by rfl) ?_ ?_
       rotate_left
       ·
        simp only [Act.put, sa_, s0_, s1_, i64_w, i32_w]
        rfl
       refine pB_ 22 62 ?_ (b_ 32 8388607) (any_of HT_.out (by kernel_rfl)) rfl rfl (fun _ _ _ h => h) (by rfl) ?_ ?_
       rotate_left
       ·
        simp only [Act.put, sa_, s0_, s1_, i64_w, i32_w]
        rfl
       refine pA_ 23 63 ?_ (b_ 32 16777215) (any_of HT_.out (by kernel_rfl)) rfl rfl (fun _ _ _ h => h) (by rfl) ?_ ?_ ?_ ?_
       rotate_left
       ·
        intro w'
        go_simp
        with_reducible rfl
       rotate_left
       ·
        simp only [Act.put, sa_, s0_, s1_, i64_w, i32_w]
        rfl
       refine pA_ 24 64 ?_ (b_ 32 33554431) (any_of HT_.out (by kernel_rfl)) rfl rfl (fun _ _ _ h => h) (by rfl) ?_ ?_ ?_ ?_
       rotate_left
       ·
        intro w'
        go_simp
        with_reducible rfl
       rotate_left
       ·
        simp only [Act.put, sa_, s0_, s1_, i64_w, i32_w]
        rfl
       refine pB_ 25 65 ?_ (b_ 32 67108863) (any_of HT_.out (by kernel_rfl)) rfl rfl (fun _ _ _ h => h) (by rfl) ?_ ?_
       rotate_left
       ·
        simp only [Act.put, sa_, s0_, s1_, i64_w, i32_w]
        rfl
       refine pB_ 26 66 ?_ (b_ 32 134217727) (any_of HT_.out (by kernel_rfl)) rfl rfl (fun _ _ _ h => h) (by rfl) ?_ ?_
       rotate_left
       ·
        simp only [Act.put, sa_, s0_, s1_, i64_w, i32_w]
        rfl
       refine pB_ 27 67 ?_ (b_ 32 268435455) (any_of HT_.out (by kernel_rfl)) rfl rfl (fun _ _ _ h => h) (by rfl) ?_ ?_
       rotate_left
       ·
        simp only [Act.put, sa_, s0_, s1_, i64_w, i32_w]
        rfl
       refine pB_ 28 68 ?_ (b_ 32 536870911) (any_of HT_.out (by kernel_rfl)) rfl rfl (fun _ _ _ h => h) (by rfl) ?_ ?_
       rotate_left
       ·
        simp only [Act.put, sa_, s0_, s1_, i64_w, i32_w]
        rfl
       refine pB_ 29 69 ?_ (b_ 32 1073741823) (any_of HT_.out (by kernel_rfl)) rfl rfl (fun _ _ _ h => h) (by rfl) ?_ ?_
       rotate_left
       ·
        simp only [Act.put, sa_, s0_, s1_, i64_w, i32_w]
        rfl
       refine pA_ 30 70 ?_ (b_ 32 2147483647) (any_of HT_.out (by kernel_rfl)) rfl rfl (fun _ _ _ h => h) (by rfl) ?_ ?_ ?_ ?_
       rotate_left
       ·
        intro w'
        go_simp
        with_reducible rfl
       rotate_left
       ·
        simp only [Act.put, sa_, s0_, s1_, i64_w, i32_w]
        rfl
       refine pA_ 31 6 ?_ (b_ 32 4294967295) (any_of HT_.out (by kernel_rfl)) rfl rfl (fun _ _ _ h => h) (by rfl) ?_ ?_ ?_ ?_
       rotate_left
       ·
        intro w'
        go_simp
        with_reducible rfl
       rotate_left
       ·
        simp only [Act.put, sa_, s0_, s1_, i64_w, i32_w]
        rfl
       refine done_ (done_of HT_.out (by kernel_rfl)) ?_
       try go_wp2
       go_ret
       exact ⟨by first | rfl | (simp [errW_none, errW_some] <;> rfl) | (simp [*, errW_none, errW_some] <;> rfl) | exact ret_ie _ | (simp [*, errW_none, errW_some, bne]; done), by repeat (first | (with_reducible first | exact HB.out | apply below_alloc | apply pw_below_drewN | apply below_drew1 | refine below_set ?_ GE418.out | refine below_set ?_ GE425.out) | exact HB.out)⟩
     ·
      rw [if_neg c10] at H
      have c10b0 : (t412.toList == t419.toList && (t413 == t420 && (t414 == t421 && (t415.toList == t422.toList)))) = false := by simpa using c10
      (try (have c10b1 : decide (t412.toList = t419.toList && (t413 == t420 && (t414 == t421 && (t415.toList == t422.toList)))) = false := by simpa using c10))
      (try (have c10b2 : (t412.toList == t419.toList && (t413 == t420 && (t414 == t421 && (t415.toList == t422.toList)))) = false := by simpa using c10))
      (try (have c10b3 : ¬ (t412.toList = t419.toList && (t413 == t420 && (t414 == t421 && (t415.toList == t422.toList)))) := by simpa using c10))
      clear c10
      obtain rfl := Option.some.inj H
      try go_wp2_with (first | ((with_reducible refine gate_builtin (b := .append) (xs := #[.const (.slice none 0 0), .tmp 22]) rfl ?_); (try (refine gate_guard (by rfl) ?_; dsimp only)); at_builtin; refine Kd.R_append_rows (Kd.int .u8) (w0 := w) w.heap.size rfl (.const (.slice none 0 0)) (.tmp 22) 23 5 (.int .u8 0) 1 rfl Try.underlying23 info5 rfl (by decide) (by omega) (.slice none 0 0) ([] : List Int) l0 _ _ _ (fun _ => True) (fun _ => False) rfl rfl ?aO ?aR (fun _ _ h => h) (fun _ h => h.elim) ?aF ?aB ?aS ?aL ?_; (case aR => repeat (first | exact (Kd.C_below HR0.out HB.out) | (with_reducible refine Kd.C_alloc ?_ _) | (with_reducible refine Kd.C_drewN ?_ _) | (with_reducible refine Kd.C_drew ?_))); (case aB => exact (by repeat (first | (with_reducible first | exact HB.out | apply below_alloc | apply pw_below_drewN | apply below_drew1) | exact HB.out))); (case aF => exact (fun _ _ => trivial)); (case aO => exact ((Kd.R_nil _ _ _ _ (fun _ => True)))); (case aS => exact (below_size (by repeat (first | (with_reducible first | exact HB.out | apply below_alloc | apply pw_below_drewN | apply below_drew1) | exact HB.out)))); (case aL => have := LMc7.out; omega); intro v410 w70 ho hb hg hat; rw [← Ny409.out] at ho; have n0_ := Aside0.mk (hb); have n1_ := Aside0.mk (ho); clear HB; have HB := n0_; have HO411 := n1_; clear n0_ n1_; clear ho hb hg hat; obtain ⟨Ao71, co71, eo71⟩ := Kd.R_slice HO411.out; subst eo71) | ((with_reducible refine gate_callee (f := 16) rfl ?_); refine goesL_ (some 28) rfl rfl Try.func16 (by kernel_rfl) rfl #[.slice Ao71 y409.length co71, .string a1, .int .i64 a2] rfl (by (try simp only [List.map_toArray, List.map_cons, List.map_nil]); first | done | rfl | (simp only [List.length_drop, List.length_take]; rfl)) ?_; (with_reducible refine (block_Find.calls kj3 _ _ y409 a1 a2 t412 t413 t414 t415 t416 t417 _ ?side1 ?side2 A8.out).mono ?_); (case side1 => repeat (first | exact (Kd.R_reads' HO411.out).2.2 | (with_reducible refine Kd.C_alloc ?_ _) | (with_reducible refine Kd.C_drewN ?_ _) | (with_reducible refine Kd.C_drew ?_))); (case side2 => exact (Kd.R_reads' HO411.out).2.1); rintro e w72 ⟨rfl, hb⟩; refine ⟨_, rfl, ?_⟩; have n0_ := Aside0.mk (Kd.R_below (by (with_reducible repeat (first | apply Kd.R_alloc | apply Kd.R_drewN | apply Kd.R_drew)); exact HO411.out) hb); have n1_ := Aside0.mk (below_step (by repeat (first | (with_reducible first | exact HB.out | apply below_alloc | apply pw_below_drewN | apply below_drew1) | exact HB.out)) hb); clear HO411; clear HB; have HO411 := n0_; have HB := n1_; clear n0_ n1_; (try clear hb); (try clear hb2); (try clear hk); (try clear hi)) | ((with_reducible refine gate_dst (N := 8) rfl ?_); (try (refine gate_guard (by rfl) ?_; dsimp only)); refine box_event ?hg (N := 8) ?hd (cs := #[.string (⟨#[]⟩ : ByteArray), .int .i64 0, .bool false, .string (⟨#[]⟩ : ByteArray)]) (t := 39) ?hr ?_; (case hd => rfl); (case hg => rfl); (case hr => first | (go_simp; done) | (go_simp; rfl)); intro gb418 hg w73 hbox hb; have n0_ := Aside0.mk (Kd.R_below (by (with_reducible repeat (first | apply Kd.R_alloc | apply Kd.R_drewN | apply Kd.R_drew)); exact HO411.out) hb); have n1_ := Aside0.mk (below_step (by repeat (first | (with_reducible first | exact HB.out | apply below_alloc | apply pw_below_drewN | apply below_drew1) | exact HB.out)) hb); have n2_ := Aside0.mk (hbox); have n3_ := Aside0.mk ((by rw [hg]; exact (below_size (by repeat (first | (with_reducible first | exact HB.out | apply below_alloc | apply pw_below_drewN | apply below_drew1) | exact HB.out))) : w.heap.size ≤ gb418)); have n4_ := Aside0.mk ((by rw [hg]; exact (below_size (by repeat (first | (with_reducible first | exact HB.out | apply below_alloc | apply pw_below_drewN | apply below_drew1) | exact HB.out))) : w.heap.size ≤ gb418)); clear HO411; clear HB; have HO411 := n0_; have HB := n1_; have BK418 := n2_; have GW418 := n3_; have GE418 := n4_; clear n0_ n1_ n2_ n3_ n4_; clear hb hbox hg; have hcz74_0 : w73.cell? ⟨gb418, 0, none⟩ = some (.string (⟨#[]⟩ : ByteArray)) := (blk_cell BK418.out 0).trans rfl; have hcz74_1 : w73.cell? ⟨gb418, 1, none⟩ = some (.int .i64 0) := (blk_cell BK418.out 1).trans rfl; have hcz74_2 : w73.cell? ⟨gb418, 2, none⟩ = some (.bool false) := (blk_cell BK418.out 2).trans rfl; have hcz74_3 : w73.cell? ⟨gb418, 3, none⟩ = some (.string (⟨#[]⟩ : ByteArray)) := (blk_cell BK418.out 3).trans rfl; have hfz74_0 := blk_frozen BK418.out 0; have hfz74_1 := blk_frozen BK418.out 1; have hfz74_2 := blk_frozen BK418.out 2; have hfz74_3 := blk_frozen BK418.out 3) | ((with_reducible refine gate_callee (f := 18) rfl ?_); refine goesL_ (some 36) rfl rfl Try.func18 (by kernel_rfl) rfl #[.slice A0 l0.length c0, .string a1, .int .i64 a2] rfl (by (try simp only [List.map_toArray, List.map_cons, List.map_nil]); first | done | rfl | (simp only [List.length_drop, List.length_take]; rfl)) ?_; (with_reducible refine (millhandref12_Find.calls kj3 _ _ l0 a1 a2 t419 t420 t421 t422 t423 t424 _ ?side1 ?side2 A9.out).mono ?_); (case side1 => exact Kd.C_below HR0.out (by repeat (first | (with_reducible first | exact HB.out | apply below_alloc | apply pw_below_drewN | apply below_drew1 | refine below_set ?_ GE418.out) | exact HB.out))); (case side2 => exact HC0.out); rintro e w75 ⟨rfl, hb⟩; refine ⟨_, rfl, ?_⟩; have n0_ := Aside0.mk (Kd.R_below (by (with_reducible repeat (first | apply Kd.R_alloc | apply Kd.R_drewN | apply Kd.R_drew)); exact (Kd.R_mono (Kd.R_far (p := ⟨gb418, 3, none⟩) (Kd.R_far (p := ⟨gb418, 2, none⟩) (Kd.R_far (p := ⟨gb418, 1, none⟩) (Kd.R_far (p := ⟨gb418, 0, none⟩) (Kd.R_types HO411.out BK418.out (by decide)) (fun _ hk => hk.2) (.string t412)) (fun _ hk => hk.2) (.int .i64 t413)) (fun _ hk => hk.2) (.bool t414)) (fun _ hk => hk.2) (.string t415)) (fun _ h_ => h_.1))) hb); have n1_ := Aside0.mk (blk_below (g := gb418) (o := .cells #[.string t412, .int .i64 t413, .bool t414, .string t415] 39 (0, 0)) (by (with_reducible repeat (first | refine blk_drewN ?_ _ | refine blk_drew ?_ | refine blk_alloc ?_ _)); refine blk_put (cs := #[.string t412, .int .i64 t413, .bool t414, .string (⟨#[]⟩ : ByteArray)]) ?_ 3 _ rfl; (with_reducible repeat (first | refine blk_drewN ?_ _ | refine blk_drew ?_ | refine blk_alloc ?_ _)); refine blk_put (cs := #[.string t412, .int .i64 t413, .bool false, .string (⟨#[]⟩ : ByteArray)]) ?_ 2 _ rfl; (with_reducible repeat (first | refine blk_drewN ?_ _ | refine blk_drew ?_ | refine blk_alloc ?_ _)); refine blk_put (cs := #[.string t412, .int .i64 0, .bool false, .string (⟨#[]⟩ : ByteArray)]) ?_ 1 _ rfl; (with_reducible repeat (first | refine blk_drewN ?_ _ | refine blk_drew ?_ | refine blk_alloc ?_ _)); refine blk_put (cs := #[.string (⟨#[]⟩ : ByteArray), .int .i64 0, .bool false, .string (⟨#[]⟩ : ByteArray)]) ?_ 0 _ rfl; (with_reducible repeat (first | refine blk_drewN ?_ _ | refine blk_drew ?_ | refine blk_alloc ?_ _)); exact BK418.out) hb); have n2_ := Aside0.mk (below_step (by repeat (first | (with_reducible first | exact HB.out | apply below_alloc | apply pw_below_drewN | apply below_drew1 | refine below_set ?_ GE418.out) | exact HB.out)) hb); clear HO411; clear BK418; clear HB; have HO411 := n0_; have BK418 := n1_; have HB := n2_; clear n0_ n1_ n2_; (try clear hb); (try clear hb2); (try clear hk); (try clear hi)) | ((with_reducible refine gate_dst (N := 11) rfl ?_); (try (refine gate_guard (by rfl) ?_; dsimp only)); refine box_event ?hg (N := 11) ?hd (cs := #[.string (⟨#[]⟩ : ByteArray), .int .i64 0, .bool false, .string (⟨#[]⟩ : ByteArray)]) (t := 39) ?hr ?_; (case hd => rfl); (case hg => rfl); (case hr => first | (go_simp; done) | (go_simp; rfl)); intro gb425 hg w76 hbox hb; have n0_ := Aside0.mk (Kd.R_below (by (with_reducible repeat (first | apply Kd.R_alloc | apply Kd.R_drewN | apply Kd.R_drew)); exact HO411.out) hb); have n1_ := Aside0.mk (blk_below (g := gb418) (o := .cells #[.string t412, .int .i64 t413, .bool t414, .string t415] 39 (0, 0)) (by (with_reducible repeat (first | refine blk_drewN ?_ _ | refine blk_drew ?_ | refine blk_alloc ?_ _)); exact BK418.out) hb); have n2_ := Aside0.mk (below_step (by repeat (first | (with_reducible first | exact HB.out | apply below_alloc | apply pw_below_drewN | apply below_drew1 | refine below_set ?_ GE418.out) | exact HB.out)) hb); have n3_ := Aside0.mk (hbox); have n4_ := Aside0.mk ((by rw [hg]; exact (below_size (by repeat (first | (with_reducible first | exact HB.out | apply below_alloc | apply pw_below_drewN | apply below_drew1 | refine below_set ?_ GE418.out) | exact HB.out))) : w.heap.size ≤ gb425)); have n5_ := Aside0.mk ((by rw [hg]; exact (below_size (by repeat (first | (with_reducible first | exact HB.out | apply below_alloc | apply pw_below_drewN | apply below_drew1 | refine below_set ?_ GE418.out) | exact HB.out))) : w.heap.size ≤ gb425)); have n6_ := Aside0.mk ((by rw [hg]; exact Nat.ne_of_lt (blk_lt (g := gb418) (o := .cells #[.string t412, .int .i64 t413, .bool t414, .string t415] 39 (0, 0)) (by (with_reducible repeat (first | refine blk_drewN ?_ _ | refine blk_drew ?_ | refine blk_alloc ?_ _)); exact BK418.out)) : gb418 ≠ gb425)); have n7_ := Aside0.mk ((by rw [hg]; exact Nat.ne_of_gt (blk_lt (g := gb418) (o := .cells #[.string t412, .int .i64 t413, .bool t414, .string t415] 39 (0, 0)) (by (with_reducible repeat (first | refine blk_drewN ?_ _ | refine blk_drew ?_ | refine blk_alloc ?_ _)); exact BK418.out)) : gb425 ≠ gb418)); clear HO411; clear BK418; clear HB; have HO411 := n0_; have BK418 := n1_; have HB := n2_; have BK425 := n3_; have GW425 := n4_; have GE425 := n5_; have NB418_425 := n6_; have NB425_418 := n7_; clear n0_ n1_ n2_ n3_ n4_ n5_ n6_ n7_; clear hb hbox hg; have hnb77 := NB425_418.out; have hnc77 := NB418_425.out; have hcz78_0 : w76.cell? ⟨gb425, 0, none⟩ = some (.string (⟨#[]⟩ : ByteArray)) := (blk_cell BK425.out 0).trans rfl; have hcz78_1 : w76.cell? ⟨gb425, 1, none⟩ = some (.int .i64 0) := (blk_cell BK425.out 1).trans rfl; have hcz78_2 : w76.cell? ⟨gb425, 2, none⟩ = some (.bool false) := (blk_cell BK425.out 2).trans rfl; have hcz78_3 : w76.cell? ⟨gb425, 3, none⟩ = some (.string (⟨#[]⟩ : ByteArray)) := (blk_cell BK425.out 3).trans rfl; have hfz78_0 := blk_frozen BK425.out 0; have hfz78_1 := blk_frozen BK425.out 1; have hfz78_2 := blk_frozen BK425.out 2; have hfz78_3 := blk_frozen BK425.out 3))
      have n0_ : Aside0 (Kd.R (Kd.int .u8) 5 ((((w76.setCell ⟨gb425, 0, none⟩ (.string t419)).setCell ⟨gb425, 1, none⟩ (.int .i64 t420)).setCell ⟨gb425, 2, none⟩ (.bool t421)).setCell ⟨gb425, 3, none⟩ (.string t422)) w.heap.size (fun _ => True) (.slice Ao71 y409.length co71) y409) := ⟨by (with_reducible repeat (first | apply Kd.R_alloc | apply Kd.R_drewN | apply Kd.R_drew)); exact Kd.R_mono (Kd.R_far (p := ⟨gb425, 3, none⟩) (Kd.R_far (p := ⟨gb425, 2, none⟩) (Kd.R_far (p := ⟨gb425, 1, none⟩) (Kd.R_far (p := ⟨gb425, 0, none⟩) (Kd.R_types HO411.out BK425.out (by decide)) (fun _ hk => hk.2) (.string t419)) (fun _ hk => hk.2) (.int .i64 t420)) (fun _ hk => hk.2) (.bool t421)) (fun _ hk => hk.2) (.string t422)) (fun _ hk => trivial)⟩
      have n1_ : Aside0 (((((w76.setCell ⟨gb425, 0, none⟩ (.string t419)).setCell ⟨gb425, 1, none⟩ (.int .i64 t420)).setCell ⟨gb425, 2, none⟩ (.bool t421)).setCell ⟨gb425, 3, none⟩ (.string t422)).heap[gb418]? = some (.cells #[.string t412, .int .i64 t413, .bool t414, .string t415] 39 (0, 0))) := ⟨by (with_reducible repeat (first | refine blk_drewN ?_ _ | refine blk_drew ?_ | refine blk_alloc ?_ _)); refine blk_far ?_ NB418_425.out _; (with_reducible repeat (first | refine blk_drewN ?_ _ | refine blk_drew ?_ | refine blk_alloc ?_ _)); refine blk_far ?_ NB418_425.out _; (with_reducible repeat (first | refine blk_drewN ?_ _ | refine blk_drew ?_ | refine blk_alloc ?_ _)); refine blk_far ?_ NB418_425.out _; (with_reducible repeat (first | refine blk_drewN ?_ _ | refine blk_drew ?_ | refine blk_alloc ?_ _)); refine blk_far ?_ NB418_425.out _; (with_reducible repeat (first | refine blk_drewN ?_ _ | refine blk_drew ?_ | refine blk_alloc ?_ _)); exact BK418.out⟩
      have n2_ : Aside0 (((((w76.setCell ⟨gb425, 0, none⟩ (.string t419)).setCell ⟨gb425, 1, none⟩ (.int .i64 t420)).setCell ⟨gb425, 2, none⟩ (.bool t421)).setCell ⟨gb425, 3, none⟩ (.string t422)).heap[gb425]? = some (.cells #[.string t419, .int .i64 t420, .bool t421, .string t422] 39 (0, 0))) := ⟨by (with_reducible repeat (first | refine blk_drewN ?_ _ | refine blk_drew ?_ | refine blk_alloc ?_ _)); refine blk_put (cs := #[.string t419, .int .i64 t420, .bool t421, .string (⟨#[]⟩ : ByteArray)]) ?_ 3 _ rfl; (with_reducible repeat (first | refine blk_drewN ?_ _ | refine blk_drew ?_ | refine blk_alloc ?_ _)); refine blk_put (cs := #[.string t419, .int .i64 t420, .bool false, .string (⟨#[]⟩ : ByteArray)]) ?_ 2 _ rfl; (with_reducible repeat (first | refine blk_drewN ?_ _ | refine blk_drew ?_ | refine blk_alloc ?_ _)); refine blk_put (cs := #[.string t419, .int .i64 0, .bool false, .string (⟨#[]⟩ : ByteArray)]) ?_ 1 _ rfl; (with_reducible repeat (first | refine blk_drewN ?_ _ | refine blk_drew ?_ | refine blk_alloc ?_ _)); refine blk_put (cs := #[.string (⟨#[]⟩ : ByteArray), .int .i64 0, .bool false, .string (⟨#[]⟩ : ByteArray)]) ?_ 0 _ rfl; (with_reducible repeat (first | refine blk_drewN ?_ _ | refine blk_drew ?_ | refine blk_alloc ?_ _)); exact BK425.out⟩
      have n3_ : Aside0 (Below w.heap.size w ((((w76.setCell ⟨gb425, 0, none⟩ (.string t419)).setCell ⟨gb425, 1, none⟩ (.int .i64 t420)).setCell ⟨gb425, 2, none⟩ (.bool t421)).setCell ⟨gb425, 3, none⟩ (.string t422))) := ⟨by repeat (first | (with_reducible first | exact HB.out | apply below_alloc | apply pw_below_drewN | apply below_drew1 | refine below_set ?_ GE418.out | refine below_set ?_ GE425.out) | exact HB.out)⟩
      (try clear HO411)
      (try clear BK418)
      (try clear BK425)
      (try clear HB)
      generalize ((((w76.setCell ⟨gb425, 0, none⟩ (.string t419)).setCell ⟨gb425, 1, none⟩ (.int .i64 t420)).setCell ⟨gb425, 2, none⟩ (.bool t421)).setCell ⟨gb425, 3, none⟩ (.string t422)) = w79 at n0_ n1_ n2_ n3_ ⊢
      have HO411 := n0_
      have BK418 := n1_
      have BK425 := n2_
      have HB := n3_
      clear n0_ n1_ n2_ n3_
      have n0_ := Aside0.mk (Kd.R_drew HO411.out)
      have n1_ := Aside0.mk (blk_drew BK418.out)
      have n2_ := Aside0.mk (blk_drew BK425.out)
      have n3_ := Aside0.mk (below_drew1 HB.out)
      clear HO411
      clear BK418
      clear BK425
      clear HB
      have HO411 := n0_
      have BK418 := n1_
      have BK425 := n2_
      have HB := n3_
      clear n0_ n1_ n2_ n3_
      refine start_ (n := 32) (S := fun w' => w'.cell? ⟨gb418, 0, none⟩ = some (.string t412) ∧ w'.cell? ⟨gb418, 1, none⟩ = some (.int .i64 t413) ∧ w'.cell? ⟨gb418, 2, none⟩ = some (.bool t414) ∧ w'.cell? ⟨gb418, 3, none⟩ = some (.string t415) ∧ w'.cell? ⟨gb425, 0, none⟩ = some (.string t419) ∧ w'.cell? ⟨gb425, 1, none⟩ = some (.int .i64 t420) ∧ w'.cell? ⟨gb425, 2, none⟩ = some (.bool t421) ∧ w'.cell? ⟨gb425, 3, none⟩ = some (.string t422)) (ds := []) (b_ 32 0) (by kernel_rfl) rfl rfl ⟨(blk_cell BK418.out 0).trans rfl, (blk_cell BK418.out 1).trans rfl, (blk_cell BK418.out 2).trans rfl, (blk_cell BK418.out 3).trans rfl, (blk_cell BK425.out 0).trans rfl, (blk_cell BK425.out 1).trans rfl, (blk_cell BK425.out 2).trans rfl, (blk_cell BK425.out 3).trans rfl⟩ (fun hHeld => ?_); refine with_tabW millhandlaw12_BlockFinds.tab6 millhandlaw12_BlockFinds.bits6 (fun HT_ HW_ => ?_)
      generalize w79.drew = w80 at HO411 BK418 BK425 HB hHeld ⊢
      refine take_ (i := 0) (N := some 40) (v := ?_) (a' := ?_) (b_ 32 1) rfl rfl (take_ofW HT_.out HW_.out (by kernel_rfl)) (fun _ _ _ h => h) (Or.inl ⟨by rfl, ?_⟩) hHeld ?_ ?_
      rotate_left
      ·
       rintro w' ⟨s0, s1, s2, s3, s4, s5, s6, s7⟩
       go_simp
       with_reducible rfl
      rotate_left
      ·
       simp only [Act.put, sa_, s0_, s1_, i64_w, i32_w]
       rfl
      refine take_ (i := 1) (N := some 41) (v := ?_) (a' := ?_) (b_ 32 3) rfl rfl (take_ofW HT_.out HW_.out (by kernel_rfl)) (fun _ _ _ h => h) (Or.inl ⟨by rfl, ?_⟩) hHeld ?_ ?_
      rotate_left
      ·
       rintro w' ⟨s0, s1, s2, s3, s4, s5, s6, s7⟩
       go_simp
       with_reducible rfl
      rotate_left
      ·
       simp only [Act.put, sa_, s0_, s1_, i64_w, i32_w]
       rfl
      refine pA_ 2 42 ?_ (b_ 32 7) (any_of HT_.out (by kernel_rfl)) rfl rfl (fun _ _ _ h => h) (by rfl) ?_ ?_ ?_ ?_
      rotate_left
      ·
       intro w'
       go_simp
       with_reducible rfl
      rotate_left
      ·
       simp only [Act.put, sa_, s0_, s1_, i64_w, i32_w]
       rfl
      refine pA_ 3 43 ?_ (b_ 32 15) (any_of HT_.out (by kernel_rfl)) rfl rfl (fun _ _ _ h => h) (by rfl) ?_ ?_ ?_ ?_
      rotate_left
      ·
       intro w'
       go_simp
       with_reducible rfl
      rotate_left
      ·
       simp only [Act.put, sa_, s0_, s1_, i64_w, i32_w]
       rfl
      refine pB_ 4 44 ?_ (b_ 32 31) (any_of HT_.out (by kernel_rfl)) rfl rfl (fun _ _ _ h => h) (by rfl) ?_ ?_
      rotate_left
      ·
       simp only [Act.put, sa_, s0_, s1_, i64_w, i32_w]
       rfl
      refine pB_ 5 45 ?_ (b_ 32 63) (any_of HT_.out (by kernel_rfl)) rfl rfl (fun _ _ _ h => h) (by rfl) ?_ ?_
      rotate_left
      ·
       simp only [Act.put, sa_, s0_, s1_, i64_w, i32_w]
       rfl
      refine pB_ 6 46 ?_ (b_ 32 127) (any_of HT_.out (by kernel_rfl)) rfl rfl (fun _ _ _ h => h) (by rfl) ?_ ?_
      rotate_left
      ·
       simp only [Act.put, sa_, s0_, s1_, i64_w, i32_w]
       rfl
      refine pA_ 7 47 ?_ (b_ 32 255) (any_of HT_.out (by kernel_rfl)) rfl rfl (fun _ _ _ h => h) (by rfl) ?_ ?_ ?_ ?_
      rotate_left
      ·
       intro w'
       go_simp
       with_reducible rfl
      rotate_left
      ·
       simp only [Act.put, sa_, s0_, s1_, i64_w, i32_w]
       rfl
      refine pA_ 8 48 ?_ (b_ 32 511) (any_of HT_.out (by kernel_rfl)) rfl rfl (fun _ _ _ h => h) (by rfl) ?_ ?_ ?_ ?_
      rotate_left
      ·
       intro w'
       go_simp
       with_reducible rfl
      rotate_left
      ·
       simp only [Act.put, sa_, s0_, s1_, i64_w, i32_w]
       rfl
      refine pB_ 9 49 ?_ (b_ 32 1023) (any_of HT_.out (by kernel_rfl)) rfl rfl (fun _ _ _ h => h) (by rfl) ?_ ?_
      rotate_left
      ·
       simp only [Act.put, sa_, s0_, s1_, i64_w, i32_w]
       rfl
      refine pB_ 10 50 ?_ (b_ 32 2047) (any_of HT_.out (by kernel_rfl)) rfl rfl (fun _ _ _ h => h) (by rfl) ?_ ?_
      rotate_left
      ·
       simp only [Act.put, sa_, s0_, s1_, i64_w, i32_w]
       rfl
      refine pB_ 11 51 ?_ (b_ 32 4095) (any_of HT_.out (by kernel_rfl)) rfl rfl (fun _ _ _ h => h) (by rfl) ?_ ?_
      rotate_left
      ·
       simp only [Act.put, sa_, s0_, s1_, i64_w, i32_w]
       rfl
      refine pA_ 12 52 ?_ (b_ 32 8191) (any_of HT_.out (by kernel_rfl)) rfl rfl (fun _ _ _ h => h) (by rfl) ?_ ?_ ?_ ?_
      rotate_left
      ·
       intro w'
       go_simp
       with_reducible rfl
      rotate_left
      ·
       simp only [Act.put, sa_, s0_, s1_, i64_w, i32_w]
       rfl
      refine pA_ 13 53 ?_ (b_ 32 16383) (any_of HT_.out (by kernel_rfl)) rfl rfl (fun _ _ _ h => h) (by rfl) ?_ ?_ ?_ ?_
      rotate_left
      ·
       intro w'
       go_simp
       with_reducible rfl
      rotate_left
      ·
       simp only [Act.put, sa_, s0_, s1_, i64_w, i32_w]
       rfl
      refine pB_ 14 54 ?_ (b_ 32 32767) (any_of HT_.out (by kernel_rfl)) rfl rfl (fun _ _ _ h => h) (by rfl) ?_ ?_
      rotate_left
      ·
       simp only [Act.put, sa_, s0_, s1_, i64_w, i32_w]
       rfl
      refine pB_ 15 55 ?_ (b_ 32 65535) (any_of HT_.out (by kernel_rfl)) rfl rfl (fun _ _ _ h => h) (by rfl) ?_ ?_
      rotate_left
      ·
       simp only [Act.put, sa_, s0_, s1_, i64_w, i32_w]
       rfl
      refine pB_ 16 56 ?_ (b_ 32 131071) (any_of HT_.out (by kernel_rfl)) rfl rfl (fun _ _ _ h => h) (by rfl) ?_ ?_
      rotate_left
      ·
       simp only [Act.put, sa_, s0_, s1_, i64_w, i32_w]
       rfl
      refine pB_ 17 57 ?_ (b_ 32 262143) (any_of HT_.out (by kernel_rfl)) rfl rfl (fun _ _ _ h => h) (by rfl) ?_ ?_
      rotate_left
      ·
       simp only [Act.put, sa_, s0_, s1_, i64_w, i32_w]
       rfl
      refine pB_ 18 58 ?_ (b_ 32 524287) (any_of HT_.out (by kernel_rfl)) rfl rfl (fun _ _ _ h => h) (by rfl) ?_ ?_
      rotate_left
      ·
       simp only [Act.put, sa_, s0_, s1_, i64_w, i32_w]
       rfl
      refine pB_ 19 59 ?_ (b_ 32 1048575) (any_of HT_.out (by kernel_rfl)) rfl rfl (fun _ _ _ h => h) (by rfl) ?_ ?_
      rotate_left
      ·
       simp only [Act.put, sa_, s0_, s1_, i64_w, i32_w]
       rfl
      refine pB_ 20 60 ?_ (b_ 32 2097151) (any_of HT_.out (by kernel_rfl)) rfl rfl (fun _ _ _ h => h) (by rfl) ?_ ?_
      rotate_left
      ·
       simp only [Act.put, sa_, s0_, s1_, i64_w, i32_w]
       rfl
      refine pB_ 21 61 ?_ (b_ 32 4194303) (any_of HT_.out (by kernel_rfl)) rfl rfl (fun _ _ _ h => h) (by rfl) ?_ ?_
      rotate_left
      ·
       simp only [Act.put, sa_, s0_, s1_, i64_w, i32_w]
       rfl
      refine pB_ 22 62 ?_ (b_ 32 8388607) (any_of HT_.out (by kernel_rfl)) rfl rfl (fun _ _ _ h => h) (by rfl) ?_ ?_
      rotate_left
      ·
       simp only [Act.put, sa_, s0_, s1_, i64_w, i32_w]
       rfl
      refine pA_ 23 63 ?_ (b_ 32 16777215) (any_of HT_.out (by kernel_rfl)) rfl rfl (fun _ _ _ h => h) (by rfl) ?_ ?_ ?_ ?_
      rotate_left
      ·
       intro w'
       go_simp
       with_reducible rfl
      rotate_left
      ·
       simp only [Act.put, sa_, s0_, s1_, i64_w, i32_w]
       rfl
      refine pA_ 24 64 ?_ (b_ 32 33554431) (any_of HT_.out (by kernel_rfl)) rfl rfl (fun _ _ _ h => h) (by rfl) ?_ ?_ ?_ ?_
      rotate_left
      ·
       intro w'
       go_simp
       with_reducible rfl
      rotate_left
      ·
       simp only [Act.put, sa_, s0_, s1_, i64_w, i32_w]
       rfl
      refine pB_ 25 65 ?_ (b_ 32 67108863) (any_of HT_.out (by kernel_rfl)) rfl rfl (fun _ _ _ h => h) (by rfl) ?_ ?_
      rotate_left
      ·
       simp only [Act.put, sa_, s0_, s1_, i64_w, i32_w]
       rfl
      refine pB_ 26 66 ?_ (b_ 32 134217727) (any_of HT_.out (by kernel_rfl)) rfl rfl (fun _ _ _ h => h) (by rfl) ?_ ?_
      rotate_left
      ·
       simp only [Act.put, sa_, s0_, s1_, i64_w, i32_w]
       rfl
      refine pB_ 27 67 ?_ (b_ 32 268435455) (any_of HT_.out (by kernel_rfl)) rfl rfl (fun _ _ _ h => h) (by rfl) ?_ ?_
      rotate_left
      ·
       simp only [Act.put, sa_, s0_, s1_, i64_w, i32_w]
       rfl
      refine pB_ 28 68 ?_ (b_ 32 536870911) (any_of HT_.out (by kernel_rfl)) rfl rfl (fun _ _ _ h => h) (by rfl) ?_ ?_
      rotate_left
      ·
       simp only [Act.put, sa_, s0_, s1_, i64_w, i32_w]
       rfl
      refine pB_ 29 69 ?_ (b_ 32 1073741823) (any_of HT_.out (by kernel_rfl)) rfl rfl (fun _ _ _ h => h) (by rfl) ?_ ?_
      rotate_left
      ·
       simp only [Act.put, sa_, s0_, s1_, i64_w, i32_w]
       rfl
      refine pA_ 30 70 ?_ (b_ 32 2147483647) (any_of HT_.out (by kernel_rfl)) rfl rfl (fun _ _ _ h => h) (by rfl) ?_ ?_ ?_ ?_
      rotate_left
      ·
       intro w'
       go_simp
       with_reducible rfl
      rotate_left
      ·
       simp only [Act.put, sa_, s0_, s1_, i64_w, i32_w]
       rfl
      refine pA_ 31 6 ?_ (b_ 32 4294967295) (any_of HT_.out (by kernel_rfl)) rfl rfl (fun _ _ _ h => h) (by rfl) ?_ ?_ ?_ ?_
      rotate_left
      ·
       intro w'
       go_simp
       with_reducible rfl
      rotate_left
      ·
       simp only [Act.put, sa_, s0_, s1_, i64_w, i32_w]
       rfl
      refine done_ (done_of HT_.out (by kernel_rfl)) ?_
      try go_wp2
      go_ret
      exact ⟨by first | rfl | (simp [errW_none, errW_some] <;> rfl) | (simp [*, errW_none, errW_some] <;> rfl) | exact ret_ie _ | (simp [*, errW_none, errW_some, bne]; done), by repeat (first | (with_reducible first | exact HB.out | apply below_alloc | apply pw_below_drewN | apply below_drew1 | refine below_set ?_ GE418.out | refine below_set ?_ GE425.out) | exact HB.out)⟩
    ·
     rw [if_neg c7] at H
     exact absurd H (by simp)

end Go.Proofs.Ytpalnbdcemmlnaa.R

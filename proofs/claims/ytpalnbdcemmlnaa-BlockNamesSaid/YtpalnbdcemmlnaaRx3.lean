/- Contracts of Go functions and what they come to, over the translation of this seat: made by a program of this session (print2.py). -/
import Derived.Test.YtpalnbdcemmlnaaRx0
import Derived.Test.YtpalnbdcemmlnaaRx2
namespace Go.Proofs.Ytpalnbdcemmlnaa.R
open Go.RowKit Go.Proofs.Ytpalnbdcemmlnaa.Co Go.Proofs.Ytpalnbdcemmlnaa.Ret Go.Proofs.Ytpalnbdcemmlnaa.Plain Go.Proofs.Ytpalnbdcemmlnaa.Box Go.Proofs.YtpalnbdcemmlnaaW.PrintWords Go.Proofs.YtpalnbdcemmlnaaW.PrintLast Go.Proofs.YtpalnbdcemmlnaaW.PrintMore
attribute [local go_sem] max2_int min2_int max_two min_two max_three min_three max_four min_four   -- for this text's walks alone
set_option linter.unusedVariables false
set_option linter.unusedSimpArgs false

/-! ### block_Write: function 9 -/
mutual
def block_Write.j0 : Nat → List (S39) → Bool → Option (List Int × Int)
 | 0, _, _ => none
 | k + 1, x0, x18 => if x18 = true then (some (([] : List Int), 4)) else (block_Write.l0 k x0 x0 (x0.length : Int) 0)
def block_Write.l0 : Nat → List (S39) → List (S39) → Int → Int → Option (List Int × Int)
 | 0, _, _, _, _ => none
 | k + 1, x0, x19, x20, x21 => if x21 < x20 then (if 0 ≤ x21 then (if x21 < (x19.length : Int) then ((block_may.f ((rd_T39 x19 x21).f0) ((rd_T39 x19 x21).f1) ((rd_T39 x19 x21).f2) ((rd_T39 x19 x21).f3)).bind fun t119 => (if t119 = true then (if x21 > 0 then (if 0 ≤ (wrap64 (x21 - 1)) then (if (wrap64 (x21 - 1)) < (x0.length : Int) then (if (Op.bytesLess (((rd_T39 x19 x21).f0).toList) (((rd_T39 x0 (wrap64 (x21 - 1))).f0).toList)) = true then (some (([] : List Int), 8)) else (if ((rd_T39 x19 x21).f0).toList = ((rd_T39 x0 (wrap64 (x21 - 1))).f0).toList then (if ((rd_T39 x19 x21).f1) ≥ ((rd_T39 x0 (wrap64 (x21 - 1))).f1) then (some (([] : List Int), 8)) else (block_Write.l0 k x0 x19 x20 (wrap64 (x21 + 1)))) else (block_Write.l0 k x0 x19 x20 (wrap64 (x21 + 1))))) else (none)) else (none)) else (block_Write.l0 k x0 x19 x20 (wrap64 (x21 + 1)))) else (some (([] : List Int), 8)))) else (none)) else (none)) else ((code_Small.f k (IntKind.u64.wrap ((x0.length : Int)))).bind fun t123 => (block_Write.l1 k t123 (⟨#[]⟩ : ByteArray) x0 (x0.length : Int) 0))
def block_Write.l1 : Nat → List Int → ByteArray → List (S39) → Int → Int → Option (List Int × Int)
 | 0, _, _, _, _, _ => none
 | k + 1, x6, x7, x71, x72, x73 => if x73 < x72 then (if 0 ≤ x73 then (if x73 < (x71.length : Int) then ((block_Common.f k x7 ((rd_T39 x71 x73).f0)).bind fun t128 => ((code_Small.f k (IntKind.u64.wrap (t128))).bind fun t129 => (if x6.length + t129.length < 140737488355328 then ((some (x6 ++ t129 : List Int)).bind fun y132 => (if 0 ≤ t128 then (if t128 ≤ (((rd_T39 x71 x73).f0).size : Int) then ((code_Text.f k (((rd_T39 x71 x73).f0).extract (t128 : Int).toNat ((rd_T39 x71 x73).f0).size)).bind fun t135 => (if y132.length + t135.length < 140737488355328 then ((some (y132 ++ t135 : List Int)).bind fun y138 => ((code_Small.f k (IntKind.u64.wrap ((rd_T39 x71 x73).f1))).bind fun t141 => (if y138.length + t141.length < 140737488355328 then ((some (y138 ++ t141 : List Int)).bind fun y144 => (if (rd_T39 x71 x73).f2 = true then (if y144.length < 140737488355328 then (block_Write.l1 k (y144 ++ [1]) ((rd_T39 x71 x73).f0) x71 x72 (wrap64 (x73 + 1))) else (none)) else (if y144.length < 140737488355328 then ((some (y144 ++ [0] : List Int)).bind fun y150 => ((code_Text.f k ((rd_T39 x71 x73).f3)).bind fun t153 => (if y150.length + t153.length < 140737488355328 then (block_Write.l1 k (y150 ++ t153) ((rd_T39 x71 x73).f0) x71 x72 (wrap64 (x73 + 1))) else (none)))) else (none)))) else (none)))) else (none))) else (none)) else (none))) else (none)))) else (none)) else (none)) else (if (x6.length : Int) > 2048 then (some (([] : List Int), 3)) else (some (x6, 0)))
end
def block_Write.f (k : Nat) (l0 : List (S39)) : Option (List Int × Int) := if (l0.length : Int) = 0 then (block_Write.j0 k l0 true) else (block_Write.j0 k l0 (decide ((l0.length : Int) > 1024)))
theorem block_Write.mono_l : ∀ k, (∀ y0 y1, LeO (block_Write.j0 k y0 y1) (block_Write.j0 (k + 1) y0 y1)) ∧ (∀ y0 y1 y2 y3, LeO (block_Write.l0 k y0 y1 y2 y3) (block_Write.l0 (k + 1) y0 y1 y2 y3)) ∧ (∀ y0 y1 y2 y3 y4, LeO (block_Write.l1 k y0 y1 y2 y3 y4) (block_Write.l1 (k + 1) y0 y1 y2 y3 y4))
 | 0 => ⟨fun _ _ r h => by simp [block_Write.j0] at h, fun _ _ _ _ r h => by simp [block_Write.l0] at h, fun _ _ _ _ _ r h => by simp [block_Write.l1] at h⟩
 | k + 1 => by
  obtain ⟨ih0, ih1, ih2⟩ := block_Write.mono_l k
  refine ⟨?_, ?_, ?_⟩
  ·
   intro y0 y1
   unfold block_Write.j0
   repeat' first
   | (with_reducible exact ih0 _ _)
   | (with_reducible exact ih1 _ _ _ _)
   | (with_reducible exact ih2 _ _ _ _ _)
   | (with_reducible exact block_Common.mono _ _ _)
   | (with_reducible exact code_Small.mono _ _)
   | (with_reducible exact code_Text.mono _ _)
   | (with_reducible exact LeO.refl _)
   | (with_reducible exact LeO.none _)
   | (with_reducible refine LeO.ite ?_ ?_)
   | (with_reducible refine LeO.bind ?_ (fun _ => ?_))
   | exact ih0 _ _
   | exact ih1 _ _ _ _
   | exact ih2 _ _ _ _ _
   | exact block_Common.mono _ _ _
   | exact code_Small.mono _ _
   | exact code_Text.mono _ _
   | exact LeO.none _
   | refine LeO.ite ?_ ?_
   | refine LeO.bind ?_ (fun _ => ?_)
  ·
   intro y0 y1 y2 y3
   unfold block_Write.l0
   repeat' first
   | (with_reducible exact ih0 _ _)
   | (with_reducible exact ih1 _ _ _ _)
   | (with_reducible exact ih2 _ _ _ _ _)
   | (with_reducible exact block_Common.mono _ _ _)
   | (with_reducible exact code_Small.mono _ _)
   | (with_reducible exact code_Text.mono _ _)
   | (with_reducible exact LeO.refl _)
   | (with_reducible exact LeO.none _)
   | (with_reducible refine LeO.ite ?_ ?_)
   | (with_reducible refine LeO.bind ?_ (fun _ => ?_))
   | exact ih0 _ _
   | exact ih1 _ _ _ _
   | exact ih2 _ _ _ _ _
   | exact block_Common.mono _ _ _
   | exact code_Small.mono _ _
   | exact code_Text.mono _ _
   | exact LeO.none _
   | refine LeO.ite ?_ ?_
   | refine LeO.bind ?_ (fun _ => ?_)
  ·
   intro y0 y1 y2 y3 y4
   unfold block_Write.l1
   repeat' first
   | (with_reducible exact ih0 _ _)
   | (with_reducible exact ih1 _ _ _ _)
   | (with_reducible exact ih2 _ _ _ _ _)
   | (with_reducible exact block_Common.mono _ _ _)
   | (with_reducible exact code_Small.mono _ _)
   | (with_reducible exact code_Text.mono _ _)
   | (with_reducible exact LeO.refl _)
   | (with_reducible exact LeO.none _)
   | (with_reducible refine LeO.ite ?_ ?_)
   | (with_reducible refine LeO.bind ?_ (fun _ => ?_))
   | exact ih0 _ _
   | exact ih1 _ _ _ _
   | exact ih2 _ _ _ _ _
   | exact block_Common.mono _ _ _
   | exact code_Small.mono _ _
   | exact code_Text.mono _ _
   | exact LeO.none _
   | refine LeO.ite ?_ ?_
   | refine LeO.bind ?_ (fun _ => ?_)
theorem block_Write.mono : ∀ a0 k, LeO (block_Write.f k a0) (block_Write.f (k + 1) a0) := by
 intro a0 k
 obtain ⟨ih0, ih1, ih2⟩ := block_Write.mono_l k
 unfold block_Write.f
 repeat' first
   | (with_reducible exact ih0 _ _)
   | (with_reducible exact ih1 _ _ _ _)
   | (with_reducible exact ih2 _ _ _ _ _)
   | (with_reducible exact block_Common.mono _ _ _)
   | (with_reducible exact code_Small.mono _ _)
   | (with_reducible exact code_Text.mono _ _)
   | (with_reducible exact LeO.refl _)
   | (with_reducible exact LeO.none _)
   | (with_reducible refine LeO.ite ?_ ?_)
   | (with_reducible refine LeO.bind ?_ (fun _ => ?_))
   | exact ih0 _ _
   | exact ih1 _ _ _ _
   | exact ih2 _ _ _ _ _
   | exact block_Common.mono _ _ _
   | exact code_Small.mono _ _
   | exact code_Text.mono _ _
   | exact LeO.none _
   | refine LeO.ite ?_ ?_
   | refine LeO.bind ?_ (fun _ => ?_)
def block_Write.T6 : Bool × List (List Nat × List Nat) := (true, [([], []), ([0], [0]), ([1], [1]), ([2, 1], [2]), ([3], [3]), ([4, 3], [3, 4]), ([5, 3, 3], [3, 5]), ([6], [6]), ([7, 6], [6, 7]), ([6], [6]), ([6], [6]), ([10, 6], [6, 10]), ([9, 11, 6], [6, 9, 11]), ([12, 6], [6, 12]), ([13, 6], [6, 13]), ([8, 14, 6], [6, 8, 14]), ([15, 6, 6], [6, 15]), ([16], [16]), ([17, 16], [16, 17]), ([16], [16]), ([16], [16]), ([20, 16], [16, 20]), ([19, 21, 16], [16, 19, 21]), ([22, 16], [16, 22]), ([23, 16], [16, 23]), ([18, 24, 16], [16, 18, 24]), ([25, 16, 16], [16, 25]), ([26], [26]), ([27, 26], [26, 27]), ([26], [26]), ([26], [26]), ([30, 26], [26, 30]), ([29, 31, 26], [26, 29, 31]), ([32, 26], [26, 32]), ([33, 26], [26, 33]), ([28, 34, 26], [26, 28, 34]), ([26, 35, 16], [16, 26, 35]), ([16, 36, 6], [6, 16, 36]), ([6, 37, 3], [3, 6, 37]), ([3, 38], [3, 38])])
def block_Write.B6 : List Nat := [0, 1, 3, 7, 15, 31, 63, 127, 255, 127, 127, 1151, 3711, 7807, 15999, 32767, 65535, 131071, 262143, 131071, 131071, 1179647, 3801087, 7995391, 16383999, 33554431, 67108863, 134217727, 268435455, 134217727, 134217727, 1207959551, 3892314111, 8187281407, 16777215999, 34359738367, 68719476735, 137438953471, 274877906943, 549755813887]
theorem block_Write.tab6 : rtab .any (opsOf Try.f9 6) = block_Write.T6 := by kernel_rfl
theorem block_Write.bits6 : waitsOk block_Write.T6.2 block_Write.B6 = true := by kernel_rfl
def block_Write.T15 : Bool × List (List Nat × List Nat) := (true, [([], []), ([], []), ([1], [1]), ([2], [2]), ([0, 3, 3], [0, 3]), ([], []), ([5], [5]), ([], []), ([6, 7], [6, 7]), ([8, 4], [8]), ([4, 9, 9], [4, 9]), ([10, 10, 0, 1, 2, 3, 4, 5, 6, 7, 8, 9, 10], [0, 10])])
def block_Write.B15 : List Nat := [0, 0, 2, 6, 15, 0, 32, 0, 224, 511, 1023, 2047]
theorem block_Write.tab15 : rtab .any (opsOf Try.f9 15) = block_Write.T15 := by kernel_rfl
theorem block_Write.bits15 : waitsOk block_Write.T15.2 block_Write.B15 = true := by kernel_rfl
def block_Write.T19 : Bool × List (List Nat × List Nat) := (true, [([], []), ([], []), ([0, 1], [0, 1]), ([], []), ([3], [3]), ([4, 2], [4]), ([2, 5, 5], [2, 5]), ([6, 6, 0, 1, 2, 3, 4, 5, 6], [0, 6])])
def block_Write.B19 : List Nat := [0, 0, 3, 0, 8, 31, 63, 127]
theorem block_Write.tab19 : rtab .any (opsOf Try.f9 19) = block_Write.T19 := by kernel_rfl
theorem block_Write.bits19 : waitsOk block_Write.T19.2 block_Write.B19 = true := by kernel_rfl
set_option maxHeartbeats 8000000 in
set_option maxRecDepth 100000 in
theorem block_Write.calls (k : Nat) (A0 : Option Addr) (c0 : Nat) (l0 : List (S39)) (r1 : List Int) (r2 : Int) (w : World) (hr0 : Kd.C k39 w A0 l0.length l0) (hc0 : l0.length ≤ c0) (h : block_Write.f k l0 = some (r1, r2)) :
  Calls Try.prog 9 #[.slice A0 l0.length c0] w fun e w' => ∃ v0_ : Value, e = .returned (.tuple #[v0_, .int .i64 r2]) ∧ Kd.R (Kd.int .u8) 5 w' w.heap.size (fun _ => True) v0_ r1 ∧ Below w.heap.size w w' := by
 have hu39 := Try.underlying39
 have HR0 := Aside0.mk hr0
 have HC0 := Aside0.mk hc0
 clear hr0 hc0
 have HB := Aside0.mk (Below.refl w.heap.size w)
 have H : (if (l0.length : Int) = 0 then (block_Write.j0 k l0 true) else (block_Write.j0 k l0 (decide ((l0.length : Int) > 1024)))) = some (r1, r2) := h
 clear h
 have HC2 := Aside0.mk H
 clear H
 go_enter Try.func9, Try.ntmps9
 go_upto_region 1 with (fail)
 go_cut [18] (fun v18 wc => ∃ (kq : Nat) (x18_1 : Bool), v18 = .bool x18_1 ∧ Aside0 (block_Write.j0 kq l0 x18_1 = some (r1, r2)) ∧ Aside0 (kq ≤ k) ∧ Aside0 (Below w.heap.size w wc))
 case first =>
  have H := HC2.out
  clear HC2
  by_cases c3 : (l0.length : Int) = 0
  ·
   rw [if_pos c3] at H
   have c3b0 : ((l0.length : Int) == 0) = true := beq_iff_eq.mpr c3
   have c3b1 : ((l0.length : Int) != 0) = false := bne_eq_false_iff_eq.mpr c3
   clear c3
   (first | rw [c3b0] | (simp only [i64_w, i32_w]; rw [c3b0]) | skip)
   have H' := Aside0.mk H
   clear H
   go_wp2
   go_meet
   case rel => exact ⟨_, (true), (by first | rfl | (simp; done) | (simp [*]; done)), H', ⟨by first | omega | exact Nat.le_refl _⟩, ⟨by repeat (first | (with_reducible first | exact HB.out | apply below_alloc | apply pw_below_drewN | apply below_drew1) | exact HB.out)⟩⟩
  ·
   rw [if_neg c3] at H
   have c3b0 : ((l0.length : Int) == 0) = false := beq_eq_false_iff_ne.mpr c3
   have c3b1 : ((l0.length : Int) != 0) = true := bne_iff_ne.mpr c3
   have c3b2 : ¬ (l0 = []) := fun h_ => c3 (by rw [h_]; rfl)
   (first | rw [c3b0] | (simp only [i64_w, i32_w]; rw [c3b0]) | skip)
   have H' := Aside0.mk H
   clear H
   go_wp2
   go_meet
   case rel => exact ⟨_, (decide ((l0.length : Int) > 1024)), (by first | rfl | (simp; done) | (simp [*]; done)), H', ⟨by first | omega | exact Nat.le_refl _⟩, ⟨by repeat (first | (with_reducible first | exact HB.out | apply below_alloc | apply pw_below_drewN | apply below_drew1) | exact HB.out)⟩⟩
 case rest =>
  clear HC2
  try clear p2
  try clear c3
  try clear c3b0
  try clear c3b1
  try clear c3b2
  obtain ⟨kq, x18_1, rfl, HA, HJ1, HB⟩ := hcut
  cases kq with
  | zero => exact absurd HA.out (by simp [block_Write.j0])
  | succ kj1 =>
   have H := HA.out
   clear HA
   simp only [block_Write.j0] at H
   by_cases c4 : x18_1 = true
   ·
    subst c4
    have H1 : (some (([] : List Int), 4)) = some (r1, r2) := by rw [if_pos rfl] at H; exact H
    clear H
    have H := H1
    clear H1
    simp only [Option.some.injEq, Prod.mk.injEq] at H
    obtain ⟨rfl, rfl⟩ := H
    go_wp2
    go_ret2
    exact ⟨_, by first | rfl | (simp [errW_none, errW_some] <;> rfl) | (simp [*, errW_none, errW_some] <;> rfl) | exact ret_ie _ | (simp [*, errW_none, errW_some, bne]; done), by first | exact Kd.R_nil _ _ _ _ _ | exact Kd.N_nil _ _ _ _ _ | exact Kd.V_nil _ _ _ _ _ | exact Kd.Q_nil _ _ _ _ _ | exact Kd.S_nil _ _ _ _ _, by repeat (first | (with_reducible first | exact HB.out | apply below_alloc | apply pw_below_drewN | apply below_drew1) | exact HB.out)⟩
   ·
    replace c4 := Bool.eq_false_iff.mpr c4
    subst c4
    have H1 : (block_Write.l0 kj1 l0 l0 (l0.length : Int) 0) = some (r1, r2) := by rw [if_neg (show ¬ (false = true) by decide)] at H; exact H
    clear H
    have H := H1
    clear H1
    have H' := Aside0.mk H
    clear H
    go_wp2
    go_loopg [21] kj1 (fun kq v21 w' => ∃ (x21_2 : Int), v21 = .int .i64 x21_2 ∧ Aside0 (block_Write.l0 kq l0 l0 (l0.length : Int) x21_2 = some (r1, r2)) ∧ Aside0 (kq ≤ kj1) ∧ Aside0 (Below w.heap.size w w'))
    case atStart => exact ⟨(0), (by first | rfl | (simp; done) | (simp [*]; done)), H', ⟨Nat.le_refl _⟩, ⟨by repeat (first | (with_reducible first | exact HB.out | apply below_alloc | apply pw_below_drewN | apply below_drew1) | exact HB.out)⟩⟩
    case round =>
     clear H'
     try clear p2
     try clear c3
     try clear c3b0
     try clear c3b1
     try clear c3b2
     try clear c4
     try clear p2
     obtain ⟨x21_2, rfl, HA, HK2, HB⟩ := hrel
     cases gk with
     | zero => exact absurd HA.out (by simp [block_Write.l0])
     | succ k2 =>
      have H := HA.out
      clear HA
      simp only [block_Write.l0] at H
      by_cases c5 : x21_2 < (l0.length : Int)
      ·
       rw [if_pos c5] at H
       have c5b0 : decide (x21_2 < (l0.length : Int)) = true := decide_eq_true c5
       clear c5
       by_cases c6 : 0 ≤ x21_2
       ·
        rw [if_pos c6] at H
        have c6b0 : decide (0 ≤ x21_2) = true := decide_eq_true c6
        clear c6
        by_cases c7 : x21_2 < (l0.length : Int)
        ·
         rw [if_pos c7] at H
         have c7b0 : decide (x21_2 < (l0.length : Int)) = true := decide_eq_true c7
         clear c7
         replace H := Option.bind_eq_some_iff.mp H
         obtain ⟨t119, A80, H⟩ := H
         replace H : (if t119 = true then (if x21_2 > 0 then (if 0 ≤ (wrap64 (x21_2 - 1)) then (if (wrap64 (x21_2 - 1)) < (l0.length : Int) then (if (Op.bytesLess (((rd_T39 l0 x21_2).f0).toList) (((rd_T39 l0 (wrap64 (x21_2 - 1))).f0).toList)) = true then (some (([] : List Int), 8)) else (if ((rd_T39 l0 x21_2).f0).toList = ((rd_T39 l0 (wrap64 (x21_2 - 1))).f0).toList then (if ((rd_T39 l0 x21_2).f1) ≥ ((rd_T39 l0 (wrap64 (x21_2 - 1))).f1) then (some (([] : List Int), 8)) else (block_Write.l0 k2 l0 l0 (l0.length : Int) (wrap64 (x21_2 + 1)))) else (block_Write.l0 k2 l0 l0 (l0.length : Int) (wrap64 (x21_2 + 1))))) else (none)) else (none)) else (block_Write.l0 k2 l0 l0 (l0.length : Int) (wrap64 (x21_2 + 1)))) else (some (([] : List Int), 8))) = some (r1, r2) := H
         have A8 := Aside0.mk A80
         clear A80
         by_cases c9 : t119 = true
         ·
          subst c9
          have H1 : (if x21_2 > 0 then (if 0 ≤ (wrap64 (x21_2 - 1)) then (if (wrap64 (x21_2 - 1)) < (l0.length : Int) then (if (Op.bytesLess (((rd_T39 l0 x21_2).f0).toList) (((rd_T39 l0 (wrap64 (x21_2 - 1))).f0).toList)) = true then (some (([] : List Int), 8)) else (if ((rd_T39 l0 x21_2).f0).toList = ((rd_T39 l0 (wrap64 (x21_2 - 1))).f0).toList then (if ((rd_T39 l0 x21_2).f1) ≥ ((rd_T39 l0 (wrap64 (x21_2 - 1))).f1) then (some (([] : List Int), 8)) else (block_Write.l0 k2 l0 l0 (l0.length : Int) (wrap64 (x21_2 + 1)))) else (block_Write.l0 k2 l0 l0 (l0.length : Int) (wrap64 (x21_2 + 1))))) else (none)) else (none)) else (block_Write.l0 k2 l0 l0 (l0.length : Int) (wrap64 (x21_2 + 1)))) = some (r1, r2) := by rw [if_pos rfl] at H; exact H
          clear H
          have H := H1
          clear H1
          by_cases c10 : x21_2 > 0
          ·
           rw [if_pos c10] at H
           have c10b0 : decide (0 < x21_2) = true := decide_eq_true c10
           clear c10
           obtain ⟨ji11, hji11⟩ : ∃ j_ : Int, (wrap64 (x21_2 - 1)) = j_ := ⟨_, rfl⟩
           replace H : (if 0 ≤ (ji11) then (if (ji11) < (l0.length : Int) then (if (Op.bytesLess (((rd_T39 l0 x21_2).f0).toList) (((rd_T39 l0 (ji11)).f0).toList)) = true then (some (([] : List Int), 8)) else (if ((rd_T39 l0 x21_2).f0).toList = ((rd_T39 l0 (ji11)).f0).toList then (if ((rd_T39 l0 x21_2).f1) ≥ ((rd_T39 l0 (ji11)).f1) then (some (([] : List Int), 8)) else (block_Write.l0 k2 l0 l0 (l0.length : Int) (wrap64 (x21_2 + 1)))) else (block_Write.l0 k2 l0 l0 (l0.length : Int) (wrap64 (x21_2 + 1))))) else (none)) else (none)) = some (r1, r2) := by first | (rw [hji11] at H; exact H) | (simp only [hji11] at H ⊢; exact H)
           (try rw [hji11] at A8)
           have hji11w : (IntKind.i64.wrap (x21_2 - 1)) = ji11 := (i64_w _).trans hji11
           by_cases c12 : 0 ≤ (ji11)
           ·
            rw [if_pos c12] at H
            have c12b0 : decide (0 ≤ (ji11)) = true := decide_eq_true c12
            clear c12
            by_cases c13 : (ji11) < (l0.length : Int)
            ·
             rw [if_pos c13] at H
             have c13b0 : decide ((ji11) < (l0.length : Int)) = true := decide_eq_true c13
             clear c13
             by_cases c14 : (Op.bytesLess (((rd_T39 l0 x21_2).f0).toList) (((rd_T39 l0 (ji11)).f0).toList)) = true
             ·
              rw [if_pos c14] at H
              have c14b0 : (Op.bytesLess (((rd_T39 l0 x21_2).f0).toList) (((rd_T39 l0 (ji11)).f0).toList)) = true := c14
              clear c14
              simp only [Option.some.injEq, Prod.mk.injEq] at H
              obtain ⟨rfl, rfl⟩ := H
              have p117 : 0 ≤ (x21_2 : Int) := of_decide_eq_true (by first | (with_reducible assumption) | assumption)
              have q117 : x21_2 < (l0.length : Int) := of_decide_eq_true (by first | (with_reducible assumption) | assumption)
              obtain ⟨ad117, e117, hx117_0, hx117_1, hx117_2, hx117_3⟩ := at_T39 HR0.out x21_2 p117 q117
              cases e117
              replace hx117_0 := cl_ HB.out hx117_0
              replace hx117_1 := cl_ HB.out hx117_1
              replace hx117_2 := cl_ HB.out hx117_2
              replace hx117_3 := cl_ HB.out hx117_3
              replace p117 := eq_true p117
              replace q117 := eq_true q117
              try go_wp2_with (first | ((with_reducible refine gate_dst (N := 5) rfl ?_); (try (refine gate_guard (by rfl) ?_; dsimp only)); refine box_event ?hg (N := 5) ?hd (cs := #[.string (⟨#[]⟩ : ByteArray), .int .i64 0, .bool false, .string (⟨#[]⟩ : ByteArray)]) (t := 39) ?hr ?_; (case hd => rfl); (case hg => rfl); (case hr => first | (go_simp; done) | (go_simp; rfl)); intro gb118 hg w15 hbox hb; have n0_ := Aside0.mk (below_step (by repeat (first | (with_reducible first | exact HB.out | apply below_alloc | apply pw_below_drewN | apply below_drew1) | exact HB.out)) hb); have n1_ := Aside0.mk (hbox); have n2_ := Aside0.mk ((by rw [hg]; exact (below_size (by repeat (first | (with_reducible first | exact HB.out | apply below_alloc | apply pw_below_drewN | apply below_drew1) | exact HB.out))) : w.heap.size ≤ gb118)); have n3_ := Aside0.mk ((by rw [hg]; exact (below_size (by repeat (first | (with_reducible first | exact HB.out | apply below_alloc | apply pw_below_drewN | apply below_drew1) | exact HB.out))) : w.heap.size ≤ gb118)); clear HB; have HB := n0_; have BK118 := n1_; have GW118 := n2_; have GE118 := n3_; clear n0_ n1_ n2_ n3_; clear hb hbox hg; have hcz16_0 : w15.cell? ⟨gb118, 0, none⟩ = some (.string (⟨#[]⟩ : ByteArray)) := (blk_cell BK118.out 0).trans rfl; have hcz16_1 : w15.cell? ⟨gb118, 1, none⟩ = some (.int .i64 0) := (blk_cell BK118.out 1).trans rfl; have hcz16_2 : w15.cell? ⟨gb118, 2, none⟩ = some (.bool false) := (blk_cell BK118.out 2).trans rfl; have hcz16_3 : w15.cell? ⟨gb118, 3, none⟩ = some (.string (⟨#[]⟩ : ByteArray)) := (blk_cell BK118.out 3).trans rfl; have hfz16_0 := blk_frozen BK118.out 0; have hfz16_1 := blk_frozen BK118.out 1; have hfz16_2 := blk_frozen BK118.out 2; have hfz16_3 := blk_frozen BK118.out 3))
              have n0_ : Aside0 (((((w15.setCell ⟨gb118, 0, none⟩ (.string ((rd_T39 l0 x21_2).f0))).setCell ⟨gb118, 1, none⟩ (.int .i64 ((rd_T39 l0 x21_2).f1))).setCell ⟨gb118, 2, none⟩ (.bool ((rd_T39 l0 x21_2).f2))).setCell ⟨gb118, 3, none⟩ (.string ((rd_T39 l0 x21_2).f3))).heap[gb118]? = some (.cells #[.string ((rd_T39 l0 x21_2).f0), .int .i64 ((rd_T39 l0 x21_2).f1), .bool ((rd_T39 l0 x21_2).f2), .string ((rd_T39 l0 x21_2).f3)] 39 (0, 0))) := ⟨by (with_reducible repeat (first | refine blk_drewN ?_ _ | refine blk_drew ?_ | refine blk_alloc ?_ _)); refine blk_put (cs := #[.string ((rd_T39 l0 x21_2).f0), .int .i64 ((rd_T39 l0 x21_2).f1), .bool ((rd_T39 l0 x21_2).f2), .string (⟨#[]⟩ : ByteArray)]) ?_ 3 _ rfl; (with_reducible repeat (first | refine blk_drewN ?_ _ | refine blk_drew ?_ | refine blk_alloc ?_ _)); refine blk_put (cs := #[.string ((rd_T39 l0 x21_2).f0), .int .i64 ((rd_T39 l0 x21_2).f1), .bool false, .string (⟨#[]⟩ : ByteArray)]) ?_ 2 _ rfl; (with_reducible repeat (first | refine blk_drewN ?_ _ | refine blk_drew ?_ | refine blk_alloc ?_ _)); refine blk_put (cs := #[.string ((rd_T39 l0 x21_2).f0), .int .i64 0, .bool false, .string (⟨#[]⟩ : ByteArray)]) ?_ 1 _ rfl; (with_reducible repeat (first | refine blk_drewN ?_ _ | refine blk_drew ?_ | refine blk_alloc ?_ _)); refine blk_put (cs := #[.string (⟨#[]⟩ : ByteArray), .int .i64 0, .bool false, .string (⟨#[]⟩ : ByteArray)]) ?_ 0 _ rfl; (with_reducible repeat (first | refine blk_drewN ?_ _ | refine blk_drew ?_ | refine blk_alloc ?_ _)); exact BK118.out⟩
              have n1_ : Aside0 (Below w.heap.size w ((((w15.setCell ⟨gb118, 0, none⟩ (.string ((rd_T39 l0 x21_2).f0))).setCell ⟨gb118, 1, none⟩ (.int .i64 ((rd_T39 l0 x21_2).f1))).setCell ⟨gb118, 2, none⟩ (.bool ((rd_T39 l0 x21_2).f2))).setCell ⟨gb118, 3, none⟩ (.string ((rd_T39 l0 x21_2).f3)))) := ⟨by repeat (first | (with_reducible first | exact HB.out | apply below_alloc | apply pw_below_drewN | apply below_drew1 | refine below_set ?_ GE118.out) | exact HB.out)⟩
              (try clear BK118)
              (try clear HB)
              generalize ((((w15.setCell ⟨gb118, 0, none⟩ (.string ((rd_T39 l0 x21_2).f0))).setCell ⟨gb118, 1, none⟩ (.int .i64 ((rd_T39 l0 x21_2).f1))).setCell ⟨gb118, 2, none⟩ (.bool ((rd_T39 l0 x21_2).f2))).setCell ⟨gb118, 3, none⟩ (.string ((rd_T39 l0 x21_2).f3))) = w17 at n0_ n1_ ⊢
              have BK118 := n0_
              have HB := n1_
              clear n0_ n1_
              obtain ⟨BK118, HB⟩ := And.intro (Aside0.mk (blk_drew BK118.out)) (Aside0.mk (below_drew1 HB.out))
              have p120 : 0 ≤ ((ji11) : Int) := of_decide_eq_true (by first | (with_reducible assumption) | assumption)
              have q120 : (ji11) < (l0.length : Int) := of_decide_eq_true (by first | (with_reducible assumption) | assumption)
              obtain ⟨ad120, e120, hx120_0, hx120_1, hx120_2, hx120_3⟩ := at_T39 HR0.out (ji11) p120 q120
              have hw120_3 := hx120_3
              have hw120_2 := hx120_2
              have hw120_1 := hx120_1
              have hw120_0 := hx120_0
              obtain rfl : ad117 = ad120 := (by injection e120)
              replace hx120_0 := cl_ HB.out hx120_0
              replace hx120_1 := cl_ HB.out hx120_1
              replace hx120_2 := cl_ HB.out hx120_2
              replace hx120_3 := cl_ HB.out hx120_3
              replace p120 := eq_true p120
              replace q120 := eq_true q120
              refine start_ (n := 40) (S := fun w' => w'.cell? ⟨gb118, 0, none⟩ = some (.string ((rd_T39 l0 x21_2).f0)) ∧ w'.cell? ⟨gb118, 1, none⟩ = some (.int .i64 ((rd_T39 l0 x21_2).f1)) ∧ w'.cell? ⟨gb118, 2, none⟩ = some (.bool ((rd_T39 l0 x21_2).f2)) ∧ w'.cell? ⟨gb118, 3, none⟩ = some (.string ((rd_T39 l0 x21_2).f3)) ∧ w'.cell? (ad117.add (((ji11)).toNat * 4)) = some (.string ((rd_T39 l0 (ji11)).f0)) ∧ w'.cell? ⟨(ad117.add (((ji11)).toNat * 4)).block, (ad117.add (((ji11)).toNat * 4)).off + 1, none⟩ = some (.int .i64 ((rd_T39 l0 (ji11)).f1)) ∧ w'.cell? ⟨(ad117.add (((ji11)).toNat * 4)).block, (ad117.add (((ji11)).toNat * 4)).off + 2, none⟩ = some (.bool ((rd_T39 l0 (ji11)).f2)) ∧ w'.cell? ⟨(ad117.add (((ji11)).toNat * 4)).block, (ad117.add (((ji11)).toNat * 4)).off + 3, none⟩ = some (.string ((rd_T39 l0 (ji11)).f3))) (ds := []) (b_ 40 0) (by kernel_rfl) rfl rfl ⟨(blk_cell BK118.out 0).trans rfl, (blk_cell BK118.out 1).trans rfl, (blk_cell BK118.out 2).trans rfl, (blk_cell BK118.out 3).trans rfl, (cl_ HB.out hw120_0), (cl_ HB.out hw120_1), (cl_ HB.out hw120_2), (cl_ HB.out hw120_3)⟩ (fun hHeld => ?_); refine with_tabW block_Write.tab6 block_Write.bits6 (fun HT_ HW_ => ?_)
              generalize w17.drew = w18 at BK118 HB hx120_0 hx120_1 hx120_2 hx120_3 hHeld ⊢
              refine tA_ 0 26 ?_ (b_ 40 1) (take_ofW HT_.out HW_.out (by kernel_rfl)) rfl rfl (fun _ _ _ h => h) (by rfl) ?_ hHeld ?_ ?_ ?_
              rotate_left
              ·
               rintro w' ⟨s0, s1, s2, s3, s4, s5, s6, s7⟩
               go_simp
               with_reducible rfl
              rotate_left
              ·
               simp only [Act.put, sa_, s0_, s1_, i64_w, i32_w]
               rfl
              refine one_ (i := 1) (N := some 27) (b_ 40 3) rfl rfl (one_of HT_.out (by kernel_rfl)) (by decide) (fun K hK => ?_)
              refine goes_ Try.func20 (by kernel_rfl) rfl #[.agg #[.string ((rd_T39 l0 x21_2).f0), .int .i64 ((rd_T39 l0 x21_2).f1), .bool ((rd_T39 l0 x21_2).f2), .string ((rd_T39 l0 x21_2).f3)]] (by rfl) rfl rfl (by (try simp only [List.map_toArray, List.map_cons, List.map_nil]); first | done | rfl | (simp only [List.length_drop, List.length_take]; rfl)) ?_
              with_reducible refine (block_may.calls ((rd_T39 l0 x21_2).f0) ((rd_T39 l0 x21_2).f1) ((rd_T39 l0 x21_2).f2) ((rd_T39 l0 x21_2).f3) true _ A8.out).mono ?_
              rintro e w19 ⟨rfl, hb⟩
              refine ⟨_, rfl, ?_⟩
              obtain ⟨BK118, HB⟩ := And.intro (Aside0.mk (blk_below (g := gb118) (o := .cells #[.string ((rd_T39 l0 x21_2).f0), .int .i64 ((rd_T39 l0 x21_2).f1), .bool ((rd_T39 l0 x21_2).f2), .string ((rd_T39 l0 x21_2).f3)] 39 (0, 0)) (by (with_reducible repeat (first | refine blk_drewN ?_ _ | refine blk_drew ?_ | refine blk_alloc ?_ _)); exact BK118.out) hb)) (Aside0.mk (below_step (by repeat (first | (with_reducible first | exact HB.out | apply below_alloc | apply pw_below_drewN | apply below_drew1 | refine below_set ?_ GE118.out) | exact HB.out)) hb))
              (try clear hb)
              (try clear hb2)
              (try clear hk)
              (try clear hi)
              refine hK.out _ _ ⟨(blk_cell BK118.out 0).trans rfl, (blk_cell BK118.out 1).trans rfl, (blk_cell BK118.out 2).trans rfl, (blk_cell BK118.out 3).trans rfl, (cl_ HB.out hw120_0), (cl_ HB.out hw120_1), (cl_ HB.out hw120_2), (cl_ HB.out hw120_3)⟩ (fun hHeld => ?_)
              clear hK K
              refine norm_ (a' := ?_) ?_ ?_
              rotate_left
              ·
               show Act.put _ (some 27) _ = _
               simp only [Act.put, sa_, s0_, s1_, i64_w, i32_w]
               rfl
              refine pA_ 2 28 ?_ (b_ 40 7) (any_of HT_.out (by kernel_rfl)) rfl rfl (fun _ _ _ h => h) (by rfl) ?_ ?_ ?_ ?_
              rotate_left
              ·
               intro w'
               go_simp
               with_reducible rfl
              rotate_left
              ·
               simp only [Act.put, sa_, s0_, s1_, i64_w, i32_w]
               rfl
              refine pA_ 3 29 ?_ (b_ 40 15) (any_of HT_.out (by kernel_rfl)) rfl rfl (fun _ _ _ h => h) (by rfl) ?_ ?_ ?_ ?_
              rotate_left
              ·
               intro w'
               go_simp
               with_reducible rfl
              rotate_left
              ·
               simp only [Act.put, sa_, s0_, s1_, i64_w, i32_w]
               rfl
              refine pA_ 4 30 ?_ (b_ 40 31) (any_of HT_.out (by kernel_rfl)) rfl rfl (fun _ _ _ h => h) (by rfl) ?_ ?_ ?_ ?_
              rotate_left
              ·
               intro w'
               go_simp
               with_reducible rfl
              rotate_left
              ·
               simp only [Act.put, sa_, s0_, s1_, i64_w, i32_w]
               rfl
              refine pA_ 5 31 ?_ (b_ 40 63) (any_of HT_.out (by kernel_rfl)) rfl rfl (fun _ _ _ h => h) (by rfl) ?_ ?_ ?_ ?_
              rotate_left
              ·
               intro w'
               go_simp
               with_reducible rfl
              rotate_left
              ·
               simp only [Act.put, sa_, s0_, s1_, i64_w, i32_w]
               rfl
              refine pA_ 6 32 ?_ (b_ 40 127) (any_of HT_.out (by kernel_rfl)) rfl rfl (fun _ _ _ h => h) (by rfl) ?_ ?_ ?_ ?_
              rotate_left
              ·
               intro w'
               go_simp
               with_reducible rfl
              rotate_left
              ·
               simp only [Act.put, sa_, s0_, s1_, i64_w, i32_w]
               rfl
              refine pA_ 7 33 ?_ (b_ 40 255) (any_of HT_.out (by kernel_rfl)) rfl rfl (fun _ _ _ h => h) (by rfl) ?_ ?_ ?_ ?_
              rotate_left
              ·
               intro w'
               go_simp
               with_reducible rfl
              rotate_left
              ·
               simp only [Act.put, sa_, s0_, s1_, i64_w, i32_w]
               rfl
              refine pA_ 9 35 ?_ (b_ 40 767) (any_of HT_.out (by kernel_rfl)) rfl rfl (fun _ _ _ h => h) (by rfl) ?_ ?_ ?_ ?_
              rotate_left
              ·
               intro w'
               go_simp
               with_reducible rfl
              rotate_left
              ·
               simp only [Act.put, sa_, s0_, s1_, i64_w, i32_w]
               rfl
              refine pA_ 10 36 ?_ (b_ 40 1791) (any_of HT_.out (by kernel_rfl)) rfl rfl (fun _ _ _ h => h) (by rfl) ?_ ?_ ?_ ?_
              rotate_left
              ·
               intro w'
               go_simp
               with_reducible rfl
              rotate_left
              ·
               simp only [Act.put, sa_, s0_, s1_, i64_w, i32_w]
               rfl
              refine pA_ 11 37 ?_ (b_ 40 3839) (any_of HT_.out (by kernel_rfl)) rfl rfl (fun _ _ _ h => h) (by rfl) ?_ ?_ ?_ ?_
              rotate_left
              ·
               intro w'
               go_simp
               with_reducible rfl
              rotate_left
              ·
               simp only [Act.put, sa_, s0_, s1_, i64_w, i32_w]
               rfl
              refine pA_ 12 38 ?_ (b_ 40 7935) (any_of HT_.out (by kernel_rfl)) rfl rfl (fun _ _ _ h => h) (by rfl) ?_ ?_ ?_ ?_
              rotate_left
              ·
               intro w'
               go_simp
               with_reducible rfl
              rotate_left
              ·
               simp only [Act.put, sa_, s0_, s1_, i64_w, i32_w]
               rfl
              refine pA_ 13 39 ?_ (b_ 40 16127) (any_of HT_.out (by kernel_rfl)) rfl rfl (fun _ _ _ h => h) (by rfl) ?_ ?_ ?_ ?_
              rotate_left
              ·
               intro w'
               go_simp
               with_reducible rfl
              rotate_left
              ·
               simp only [Act.put, sa_, s0_, s1_, i64_w, i32_w]
               rfl
              refine tA_ 8 34 ?_ (b_ 40 16383) (take_ofW HT_.out HW_.out (by kernel_rfl)) rfl rfl (fun _ _ _ h => h) (by rfl) ?_ hHeld ?_ ?_ ?_
              rotate_left
              ·
               rintro w' ⟨s0, s1, s2, s3, s4, s5, s6, s7⟩
               go_simp
               with_reducible rfl
              rotate_left
              ·
               simp only [Act.put, sa_, s0_, s1_, i64_w, i32_w]
               rfl
              refine tA_ 14 40 ?_ (b_ 40 32767) (take_ofW HT_.out HW_.out (by kernel_rfl)) rfl rfl (fun _ _ _ h => h) (by rfl) ?_ hHeld ?_ ?_ ?_
              rotate_left
              ·
               rintro w' ⟨s0, s1, s2, s3, s4, s5, s6, s7⟩
               go_simp
               with_reducible rfl
              rotate_left
              ·
               simp only [Act.put, sa_, s0_, s1_, i64_w, i32_w]
               rfl
              refine pA_ 15 41 ?_ (b_ 40 65535) (any_of HT_.out (by kernel_rfl)) rfl rfl (fun _ _ _ h => h) (by rfl) ?_ ?_ ?_ ?_
              rotate_left
              ·
               intro w'
               go_simp
               with_reducible rfl
              rotate_left
              ·
               simp only [Act.put, sa_, s0_, s1_, i64_w, i32_w]
               rfl
              refine pA_ 16 42 ?_ (b_ 40 131071) (any_of HT_.out (by kernel_rfl)) rfl rfl (fun _ _ _ h => h) (by rfl) ?_ ?_ ?_ ?_
              rotate_left
              ·
               intro w'
               go_simp
               with_reducible rfl
              rotate_left
              ·
               simp only [Act.put, sa_, s0_, s1_, i64_w, i32_w]
               rfl
              refine pB_ 17 43 ?_ (b_ 40 262143) (any_of HT_.out (by kernel_rfl)) rfl rfl (fun _ _ _ h => h) (by rfl) ?_ ?_
              rotate_left
              ·
               simp only [Act.put, sa_, s0_, s1_, i64_w, i32_w]
               rfl
              refine pB_ 18 44 ?_ (b_ 40 524287) (any_of HT_.out (by kernel_rfl)) rfl rfl (fun _ _ _ h => h) (by rfl) ?_ ?_
              rotate_left
              ·
               simp only [Act.put, sa_, s0_, s1_, i64_w, i32_w]
               rfl
              refine pB_ 19 45 ?_ (b_ 40 1048575) (any_of HT_.out (by kernel_rfl)) rfl rfl (fun _ _ _ h => h) (by rfl) ?_ ?_
              rotate_left
              ·
               simp only [Act.put, sa_, s0_, s1_, i64_w, i32_w]
               rfl
              refine pB_ 20 46 ?_ (b_ 40 2097151) (any_of HT_.out (by kernel_rfl)) rfl rfl (fun _ _ _ h => h) (by rfl) ?_ ?_
              rotate_left
              ·
               simp only [Act.put, sa_, s0_, s1_, i64_w, i32_w]
               rfl
              refine pB_ 21 47 ?_ (b_ 40 4194303) (any_of HT_.out (by kernel_rfl)) rfl rfl (fun _ _ _ h => h) (by rfl) ?_ ?_
              rotate_left
              ·
               simp only [Act.put, sa_, s0_, s1_, i64_w, i32_w]
               rfl
              refine pB_ 22 48 ?_ (b_ 40 8388607) (any_of HT_.out (by kernel_rfl)) rfl rfl (fun _ _ _ h => h) (by rfl) ?_ ?_
              rotate_left
              ·
               simp only [Act.put, sa_, s0_, s1_, i64_w, i32_w]
               rfl
              refine pB_ 23 49 ?_ (b_ 40 16777215) (any_of HT_.out (by kernel_rfl)) rfl rfl (fun _ _ _ h => h) (by rfl) ?_ ?_
              rotate_left
              ·
               simp only [Act.put, sa_, s0_, s1_, i64_w, i32_w]
               rfl
              refine pB_ 24 50 ?_ (b_ 40 33554431) (any_of HT_.out (by kernel_rfl)) rfl rfl (fun _ _ _ h => h) (by rfl) ?_ ?_
              rotate_left
              ·
               simp only [Act.put, sa_, s0_, s1_, i64_w, i32_w]
               rfl
              refine pB_ 25 51 ?_ (b_ 40 67108863) (any_of HT_.out (by kernel_rfl)) rfl rfl (fun _ _ _ h => h) (by rfl) ?_ ?_
              rotate_left
              ·
               simp only [Act.put, sa_, s0_, s1_, i64_w, i32_w]
               rfl
              refine pB_ 26 52 ?_ (b_ 40 134217727) (any_of HT_.out (by kernel_rfl)) rfl rfl (fun _ _ _ h => h) (by rfl) ?_ ?_
              rotate_left
              ·
               simp only [Act.put, sa_, s0_, s1_, i64_w, i32_w]
               rfl
              refine pB_ 27 53 ?_ (b_ 40 268435455) (any_of HT_.out (by kernel_rfl)) rfl rfl (fun _ _ _ h => h) (by rfl) ?_ ?_
              rotate_left
              ·
               simp only [Act.put, sa_, s0_, s1_, i64_w, i32_w]
               rfl
              refine pB_ 28 54 ?_ (b_ 40 536870911) (any_of HT_.out (by kernel_rfl)) rfl rfl (fun _ _ _ h => h) (by rfl) ?_ ?_
              rotate_left
              ·
               simp only [Act.put, sa_, s0_, s1_, i64_w, i32_w]
               rfl
              refine pB_ 29 55 ?_ (b_ 40 1073741823) (any_of HT_.out (by kernel_rfl)) rfl rfl (fun _ _ _ h => h) (by rfl) ?_ ?_
              rotate_left
              ·
               simp only [Act.put, sa_, s0_, s1_, i64_w, i32_w]
               rfl
              refine pB_ 30 56 ?_ (b_ 40 2147483647) (any_of HT_.out (by kernel_rfl)) rfl rfl (fun _ _ _ h => h) (by rfl) ?_ ?_
              rotate_left
              ·
               simp only [Act.put, sa_, s0_, s1_, i64_w, i32_w]
               rfl
              refine pB_ 31 57 ?_ (b_ 40 4294967295) (any_of HT_.out (by kernel_rfl)) rfl rfl (fun _ _ _ h => h) (by rfl) ?_ ?_
              rotate_left
              ·
               simp only [Act.put, sa_, s0_, s1_, i64_w, i32_w]
               rfl
              refine pB_ 32 58 ?_ (b_ 40 8589934591) (any_of HT_.out (by kernel_rfl)) rfl rfl (fun _ _ _ h => h) (by rfl) ?_ ?_
              rotate_left
              ·
               simp only [Act.put, sa_, s0_, s1_, i64_w, i32_w]
               rfl
              refine pB_ 33 59 ?_ (b_ 40 17179869183) (any_of HT_.out (by kernel_rfl)) rfl rfl (fun _ _ _ h => h) (by rfl) ?_ ?_
              rotate_left
              ·
               simp only [Act.put, sa_, s0_, s1_, i64_w, i32_w]
               rfl
              refine pB_ 34 60 ?_ (b_ 40 34359738367) (any_of HT_.out (by kernel_rfl)) rfl rfl (fun _ _ _ h => h) (by rfl) ?_ ?_
              rotate_left
              ·
               simp only [Act.put, sa_, s0_, s1_, i64_w, i32_w]
               rfl
              refine pB_ 35 61 ?_ (b_ 40 68719476735) (any_of HT_.out (by kernel_rfl)) rfl rfl (fun _ _ _ h => h) (by rfl) ?_ ?_
              rotate_left
              ·
               simp only [Act.put, sa_, s0_, s1_, i64_w, i32_w]
               rfl
              refine pB_ 36 62 ?_ (b_ 40 137438953471) (any_of HT_.out (by kernel_rfl)) rfl rfl (fun _ _ _ h => h) (by rfl) ?_ ?_
              rotate_left
              ·
               simp only [Act.put, sa_, s0_, s1_, i64_w, i32_w]
               rfl
              refine pA_ 37 63 ?_ (b_ 40 274877906943) (any_of HT_.out (by kernel_rfl)) rfl rfl (fun _ _ _ h => h) (by rfl) ?_ ?_ ?_ ?_
              rotate_left
              ·
               intro w'
               go_simp
               with_reducible rfl
              rotate_left
              ·
               simp only [Act.put, sa_, s0_, s1_, i64_w, i32_w]
               rfl
              refine pA_ 38 64 ?_ (b_ 40 549755813887) (any_of HT_.out (by kernel_rfl)) rfl rfl (fun _ _ _ h => h) (by rfl) ?_ ?_ ?_ ?_
              rotate_left
              ·
               intro w'
               go_simp
               with_reducible rfl
              rotate_left
              ·
               simp only [Act.put, sa_, s0_, s1_, i64_w, i32_w]
               rfl
              refine pA_ 39 65 ?_ (b_ 40 1099511627775) (any_of HT_.out (by kernel_rfl)) rfl rfl (fun _ _ _ h => h) (by rfl) ?_ ?_ ?_ ?_
              rotate_left
              ·
               intro w'
               go_simp
               with_reducible rfl
              rotate_left
              ·
               simp only [Act.put, sa_, s0_, s1_, i64_w, i32_w]
               rfl
              refine done_ (done_of HT_.out (by kernel_rfl)) ?_
              try go_wp2
              go_ret2
              exact ⟨_, by first | rfl | (simp [errW_none, errW_some] <;> rfl) | (simp only [← hji11]; first | rfl | (simp [errW_none, errW_some] <;> rfl)) | (simp [*, errW_none, errW_some] <;> rfl) | exact ret_ie _ | (simp [*, errW_none, errW_some, bne]; done), by first | exact Kd.R_nil _ _ _ _ _ | exact Kd.N_nil _ _ _ _ _ | exact Kd.V_nil _ _ _ _ _ | exact Kd.Q_nil _ _ _ _ _ | exact Kd.S_nil _ _ _ _ _, by repeat (first | (with_reducible first | exact HB.out | apply below_alloc | apply pw_below_drewN | apply below_drew1 | refine below_set ?_ GE118.out) | exact HB.out)⟩
             ·
              rw [if_neg c14] at H
              have c14b0 : (Op.bytesLess (((rd_T39 l0 x21_2).f0).toList) (((rd_T39 l0 (ji11)).f0).toList)) = false := by simpa using c14
              clear c14
              by_cases c20 : ((rd_T39 l0 x21_2).f0).toList = ((rd_T39 l0 (ji11)).f0).toList
              ·
               rw [if_pos c20] at H
               have c20b0 : (((rd_T39 l0 x21_2).f0).toList == ((rd_T39 l0 (ji11)).f0).toList) = true := beq_iff_eq.mpr c20
               have c20b1 : (((rd_T39 l0 x21_2).f0).toList != ((rd_T39 l0 (ji11)).f0).toList) = false := bne_eq_false_iff_eq.mpr c20
               clear c20
               by_cases c21 : ((rd_T39 l0 x21_2).f1) ≥ ((rd_T39 l0 (ji11)).f1)
               ·
                rw [if_pos c21] at H
                have c21b0 : decide (((rd_T39 l0 (ji11)).f1) ≤ ((rd_T39 l0 x21_2).f1)) = true := decide_eq_true c21
                clear c21
                simp only [Option.some.injEq, Prod.mk.injEq] at H
                obtain ⟨rfl, rfl⟩ := H
                have p117 : 0 ≤ (x21_2 : Int) := of_decide_eq_true (by first | (with_reducible assumption) | assumption)
                have q117 : x21_2 < (l0.length : Int) := of_decide_eq_true (by first | (with_reducible assumption) | assumption)
                obtain ⟨ad117, e117, hx117_0, hx117_1, hx117_2, hx117_3⟩ := at_T39 HR0.out x21_2 p117 q117
                cases e117
                replace hx117_0 := cl_ HB.out hx117_0
                replace hx117_1 := cl_ HB.out hx117_1
                replace hx117_2 := cl_ HB.out hx117_2
                replace hx117_3 := cl_ HB.out hx117_3
                replace p117 := eq_true p117
                replace q117 := eq_true q117
                try go_wp2_with (first | ((with_reducible refine gate_dst (N := 5) rfl ?_); (try (refine gate_guard (by rfl) ?_; dsimp only)); refine box_event ?hg (N := 5) ?hd (cs := #[.string (⟨#[]⟩ : ByteArray), .int .i64 0, .bool false, .string (⟨#[]⟩ : ByteArray)]) (t := 39) ?hr ?_; (case hd => rfl); (case hg => rfl); (case hr => first | (go_simp; done) | (go_simp; rfl)); intro gb118 hg w22 hbox hb; have n0_ := Aside0.mk (below_step (by repeat (first | (with_reducible first | exact HB.out | apply below_alloc | apply pw_below_drewN | apply below_drew1) | exact HB.out)) hb); have n1_ := Aside0.mk (hbox); have n2_ := Aside0.mk ((by rw [hg]; exact (below_size (by repeat (first | (with_reducible first | exact HB.out | apply below_alloc | apply pw_below_drewN | apply below_drew1) | exact HB.out))) : w.heap.size ≤ gb118)); have n3_ := Aside0.mk ((by rw [hg]; exact (below_size (by repeat (first | (with_reducible first | exact HB.out | apply below_alloc | apply pw_below_drewN | apply below_drew1) | exact HB.out))) : w.heap.size ≤ gb118)); clear HB; have HB := n0_; have BK118 := n1_; have GW118 := n2_; have GE118 := n3_; clear n0_ n1_ n2_ n3_; clear hb hbox hg; have hcz23_0 : w22.cell? ⟨gb118, 0, none⟩ = some (.string (⟨#[]⟩ : ByteArray)) := (blk_cell BK118.out 0).trans rfl; have hcz23_1 : w22.cell? ⟨gb118, 1, none⟩ = some (.int .i64 0) := (blk_cell BK118.out 1).trans rfl; have hcz23_2 : w22.cell? ⟨gb118, 2, none⟩ = some (.bool false) := (blk_cell BK118.out 2).trans rfl; have hcz23_3 : w22.cell? ⟨gb118, 3, none⟩ = some (.string (⟨#[]⟩ : ByteArray)) := (blk_cell BK118.out 3).trans rfl; have hfz23_0 := blk_frozen BK118.out 0; have hfz23_1 := blk_frozen BK118.out 1; have hfz23_2 := blk_frozen BK118.out 2; have hfz23_3 := blk_frozen BK118.out 3))
                have n0_ : Aside0 (((((w22.setCell ⟨gb118, 0, none⟩ (.string ((rd_T39 l0 x21_2).f0))).setCell ⟨gb118, 1, none⟩ (.int .i64 ((rd_T39 l0 x21_2).f1))).setCell ⟨gb118, 2, none⟩ (.bool ((rd_T39 l0 x21_2).f2))).setCell ⟨gb118, 3, none⟩ (.string ((rd_T39 l0 x21_2).f3))).heap[gb118]? = some (.cells #[.string ((rd_T39 l0 x21_2).f0), .int .i64 ((rd_T39 l0 x21_2).f1), .bool ((rd_T39 l0 x21_2).f2), .string ((rd_T39 l0 x21_2).f3)] 39 (0, 0))) := ⟨by (with_reducible repeat (first | refine blk_drewN ?_ _ | refine blk_drew ?_ | refine blk_alloc ?_ _)); refine blk_put (cs := #[.string ((rd_T39 l0 x21_2).f0), .int .i64 ((rd_T39 l0 x21_2).f1), .bool ((rd_T39 l0 x21_2).f2), .string (⟨#[]⟩ : ByteArray)]) ?_ 3 _ rfl; (with_reducible repeat (first | refine blk_drewN ?_ _ | refine blk_drew ?_ | refine blk_alloc ?_ _)); refine blk_put (cs := #[.string ((rd_T39 l0 x21_2).f0), .int .i64 ((rd_T39 l0 x21_2).f1), .bool false, .string (⟨#[]⟩ : ByteArray)]) ?_ 2 _ rfl; (with_reducible repeat (first | refine blk_drewN ?_ _ | refine blk_drew ?_ | refine blk_alloc ?_ _)); refine blk_put (cs := #[.string ((rd_T39 l0 x21_2).f0), .int .i64 0, .bool false, .string (⟨#[]⟩ : ByteArray)]) ?_ 1 _ rfl; (with_reducible repeat (first | refine blk_drewN ?_ _ | refine blk_drew ?_ | refine blk_alloc ?_ _)); refine blk_put (cs := #[.string (⟨#[]⟩ : ByteArray), .int .i64 0, .bool false, .string (⟨#[]⟩ : ByteArray)]) ?_ 0 _ rfl; (with_reducible repeat (first | refine blk_drewN ?_ _ | refine blk_drew ?_ | refine blk_alloc ?_ _)); exact BK118.out⟩
                have n1_ : Aside0 (Below w.heap.size w ((((w22.setCell ⟨gb118, 0, none⟩ (.string ((rd_T39 l0 x21_2).f0))).setCell ⟨gb118, 1, none⟩ (.int .i64 ((rd_T39 l0 x21_2).f1))).setCell ⟨gb118, 2, none⟩ (.bool ((rd_T39 l0 x21_2).f2))).setCell ⟨gb118, 3, none⟩ (.string ((rd_T39 l0 x21_2).f3)))) := ⟨by repeat (first | (with_reducible first | exact HB.out | apply below_alloc | apply pw_below_drewN | apply below_drew1 | refine below_set ?_ GE118.out) | exact HB.out)⟩
                (try clear BK118)
                (try clear HB)
                generalize ((((w22.setCell ⟨gb118, 0, none⟩ (.string ((rd_T39 l0 x21_2).f0))).setCell ⟨gb118, 1, none⟩ (.int .i64 ((rd_T39 l0 x21_2).f1))).setCell ⟨gb118, 2, none⟩ (.bool ((rd_T39 l0 x21_2).f2))).setCell ⟨gb118, 3, none⟩ (.string ((rd_T39 l0 x21_2).f3))) = w24 at n0_ n1_ ⊢
                have BK118 := n0_
                have HB := n1_
                clear n0_ n1_
                obtain ⟨BK118, HB⟩ := And.intro (Aside0.mk (blk_drew BK118.out)) (Aside0.mk (below_drew1 HB.out))
                have p120 : 0 ≤ ((ji11) : Int) := of_decide_eq_true (by first | (with_reducible assumption) | assumption)
                have q120 : (ji11) < (l0.length : Int) := of_decide_eq_true (by first | (with_reducible assumption) | assumption)
                obtain ⟨ad120, e120, hx120_0, hx120_1, hx120_2, hx120_3⟩ := at_T39 HR0.out (ji11) p120 q120
                have hw120_3 := hx120_3
                have hw120_2 := hx120_2
                have hw120_1 := hx120_1
                have hw120_0 := hx120_0
                obtain rfl : ad117 = ad120 := (by injection e120)
                replace hx120_0 := cl_ HB.out hx120_0
                replace hx120_1 := cl_ HB.out hx120_1
                replace hx120_2 := cl_ HB.out hx120_2
                replace hx120_3 := cl_ HB.out hx120_3
                replace p120 := eq_true p120
                replace q120 := eq_true q120
                have p121 : 0 ≤ ((ji11) : Int) := of_decide_eq_true (by first | (with_reducible assumption) | assumption)
                have q121 : (ji11) < (l0.length : Int) := of_decide_eq_true (by first | (with_reducible assumption) | assumption)
                obtain ⟨ad121, e121, hx121_0, hx121_1, hx121_2, hx121_3⟩ := at_T39 HR0.out (ji11) p121 q121
                have hw121_3 := hx121_3
                have hw121_2 := hx121_2
                have hw121_1 := hx121_1
                have hw121_0 := hx121_0
                obtain rfl : ad117 = ad121 := (by injection e121)
                replace hx121_0 := cl_ HB.out hx121_0
                replace hx121_1 := cl_ HB.out hx121_1
                replace hx121_2 := cl_ HB.out hx121_2
                replace hx121_3 := cl_ HB.out hx121_3
                replace p121 := eq_true p121
                replace q121 := eq_true q121
                have p122 : 0 ≤ ((ji11) : Int) := of_decide_eq_true (by first | (with_reducible assumption) | assumption)
                have q122 : (ji11) < (l0.length : Int) := of_decide_eq_true (by first | (with_reducible assumption) | assumption)
                obtain ⟨ad122, e122, hx122_0, hx122_1, hx122_2, hx122_3⟩ := at_T39 HR0.out (ji11) p122 q122
                have hw122_3 := hx122_3
                have hw122_2 := hx122_2
                have hw122_1 := hx122_1
                have hw122_0 := hx122_0
                obtain rfl : ad117 = ad122 := (by injection e122)
                replace hx122_0 := cl_ HB.out hx122_0
                replace hx122_1 := cl_ HB.out hx122_1
                replace hx122_2 := cl_ HB.out hx122_2
                replace hx122_3 := cl_ HB.out hx122_3
                replace p122 := eq_true p122
                replace q122 := eq_true q122
                refine start_ (n := 40) (S := fun w' => w'.cell? ⟨gb118, 0, none⟩ = some (.string ((rd_T39 l0 x21_2).f0)) ∧ w'.cell? ⟨gb118, 1, none⟩ = some (.int .i64 ((rd_T39 l0 x21_2).f1)) ∧ w'.cell? ⟨gb118, 2, none⟩ = some (.bool ((rd_T39 l0 x21_2).f2)) ∧ w'.cell? ⟨gb118, 3, none⟩ = some (.string ((rd_T39 l0 x21_2).f3)) ∧ w'.cell? (ad117.add (((ji11)).toNat * 4)) = some (.string ((rd_T39 l0 (ji11)).f0)) ∧ w'.cell? ⟨(ad117.add (((ji11)).toNat * 4)).block, (ad117.add (((ji11)).toNat * 4)).off + 1, none⟩ = some (.int .i64 ((rd_T39 l0 (ji11)).f1)) ∧ w'.cell? ⟨(ad117.add (((ji11)).toNat * 4)).block, (ad117.add (((ji11)).toNat * 4)).off + 2, none⟩ = some (.bool ((rd_T39 l0 (ji11)).f2)) ∧ w'.cell? ⟨(ad117.add (((ji11)).toNat * 4)).block, (ad117.add (((ji11)).toNat * 4)).off + 3, none⟩ = some (.string ((rd_T39 l0 (ji11)).f3)) ∧ w'.cell? (ad117.add (((ji11)).toNat * 4)) = some (.string ((rd_T39 l0 (ji11)).f0)) ∧ w'.cell? ⟨(ad117.add (((ji11)).toNat * 4)).block, (ad117.add (((ji11)).toNat * 4)).off + 1, none⟩ = some (.int .i64 ((rd_T39 l0 (ji11)).f1)) ∧ w'.cell? ⟨(ad117.add (((ji11)).toNat * 4)).block, (ad117.add (((ji11)).toNat * 4)).off + 2, none⟩ = some (.bool ((rd_T39 l0 (ji11)).f2)) ∧ w'.cell? ⟨(ad117.add (((ji11)).toNat * 4)).block, (ad117.add (((ji11)).toNat * 4)).off + 3, none⟩ = some (.string ((rd_T39 l0 (ji11)).f3)) ∧ w'.cell? (ad117.add (((ji11)).toNat * 4)) = some (.string ((rd_T39 l0 (ji11)).f0)) ∧ w'.cell? ⟨(ad117.add (((ji11)).toNat * 4)).block, (ad117.add (((ji11)).toNat * 4)).off + 1, none⟩ = some (.int .i64 ((rd_T39 l0 (ji11)).f1)) ∧ w'.cell? ⟨(ad117.add (((ji11)).toNat * 4)).block, (ad117.add (((ji11)).toNat * 4)).off + 2, none⟩ = some (.bool ((rd_T39 l0 (ji11)).f2)) ∧ w'.cell? ⟨(ad117.add (((ji11)).toNat * 4)).block, (ad117.add (((ji11)).toNat * 4)).off + 3, none⟩ = some (.string ((rd_T39 l0 (ji11)).f3))) (ds := []) (b_ 40 0) (by kernel_rfl) rfl rfl ⟨(blk_cell BK118.out 0).trans rfl, (blk_cell BK118.out 1).trans rfl, (blk_cell BK118.out 2).trans rfl, (blk_cell BK118.out 3).trans rfl, (cl_ HB.out hw120_0), (cl_ HB.out hw120_1), (cl_ HB.out hw120_2), (cl_ HB.out hw120_3), (cl_ HB.out hw121_0), (cl_ HB.out hw121_1), (cl_ HB.out hw121_2), (cl_ HB.out hw121_3), (cl_ HB.out hw122_0), (cl_ HB.out hw122_1), (cl_ HB.out hw122_2), (cl_ HB.out hw122_3)⟩ (fun hHeld => ?_); refine with_tabW block_Write.tab6 block_Write.bits6 (fun HT_ HW_ => ?_)
                generalize w24.drew = w25 at BK118 HB hx120_0 hx120_1 hx120_2 hx120_3 hx121_0 hx121_1 hx121_2 hx121_3 hx122_0 hx122_1 hx122_2 hx122_3 hHeld ⊢
                refine tA_ 0 26 ?_ (b_ 40 1) (take_ofW HT_.out HW_.out (by kernel_rfl)) rfl rfl (fun _ _ _ h => h) (by rfl) ?_ hHeld ?_ ?_ ?_
                rotate_left
                ·
                 rintro w' ⟨s0, s1, s2, s3, s4, s5, s6, s7, s8, s9, s10, s11, s12, s13, s14, s15⟩
                 go_simp
                 with_reducible rfl
                rotate_left
                ·
                 simp only [Act.put, sa_, s0_, s1_, i64_w, i32_w]
                 rfl
                refine one_ (i := 1) (N := some 27) (b_ 40 3) rfl rfl (one_of HT_.out (by kernel_rfl)) (by decide) (fun K hK => ?_)
                refine goes_ Try.func20 (by kernel_rfl) rfl #[.agg #[.string ((rd_T39 l0 x21_2).f0), .int .i64 ((rd_T39 l0 x21_2).f1), .bool ((rd_T39 l0 x21_2).f2), .string ((rd_T39 l0 x21_2).f3)]] (by rfl) rfl rfl (by (try simp only [List.map_toArray, List.map_cons, List.map_nil]); first | done | rfl | (simp only [List.length_drop, List.length_take]; rfl)) ?_
                with_reducible refine (block_may.calls ((rd_T39 l0 x21_2).f0) ((rd_T39 l0 x21_2).f1) ((rd_T39 l0 x21_2).f2) ((rd_T39 l0 x21_2).f3) true _ A8.out).mono ?_
                rintro e w26 ⟨rfl, hb⟩
                refine ⟨_, rfl, ?_⟩
                obtain ⟨BK118, HB⟩ := And.intro (Aside0.mk (blk_below (g := gb118) (o := .cells #[.string ((rd_T39 l0 x21_2).f0), .int .i64 ((rd_T39 l0 x21_2).f1), .bool ((rd_T39 l0 x21_2).f2), .string ((rd_T39 l0 x21_2).f3)] 39 (0, 0)) (by (with_reducible repeat (first | refine blk_drewN ?_ _ | refine blk_drew ?_ | refine blk_alloc ?_ _)); exact BK118.out) hb)) (Aside0.mk (below_step (by repeat (first | (with_reducible first | exact HB.out | apply below_alloc | apply pw_below_drewN | apply below_drew1 | refine below_set ?_ GE118.out) | exact HB.out)) hb))
                (try clear hb)
                (try clear hb2)
                (try clear hk)
                (try clear hi)
                refine hK.out _ _ ⟨(blk_cell BK118.out 0).trans rfl, (blk_cell BK118.out 1).trans rfl, (blk_cell BK118.out 2).trans rfl, (blk_cell BK118.out 3).trans rfl, (cl_ HB.out hw120_0), (cl_ HB.out hw120_1), (cl_ HB.out hw120_2), (cl_ HB.out hw120_3), (cl_ HB.out hw121_0), (cl_ HB.out hw121_1), (cl_ HB.out hw121_2), (cl_ HB.out hw121_3), (cl_ HB.out hw122_0), (cl_ HB.out hw122_1), (cl_ HB.out hw122_2), (cl_ HB.out hw122_3)⟩ (fun hHeld => ?_)
                clear hK K
                refine norm_ (a' := ?_) ?_ ?_
                rotate_left
                ·
                 show Act.put _ (some 27) _ = _
                 simp only [Act.put, sa_, s0_, s1_, i64_w, i32_w]
                 rfl
                refine pA_ 2 28 ?_ (b_ 40 7) (any_of HT_.out (by kernel_rfl)) rfl rfl (fun _ _ _ h => h) (by rfl) ?_ ?_ ?_ ?_
                rotate_left
                ·
                 intro w'
                 go_simp
                 with_reducible rfl
                rotate_left
                ·
                 simp only [Act.put, sa_, s0_, s1_, i64_w, i32_w]
                 rfl
                refine pA_ 3 29 ?_ (b_ 40 15) (any_of HT_.out (by kernel_rfl)) rfl rfl (fun _ _ _ h => h) (by rfl) ?_ ?_ ?_ ?_
                rotate_left
                ·
                 intro w'
                 go_simp
                 with_reducible rfl
                rotate_left
                ·
                 simp only [Act.put, sa_, s0_, s1_, i64_w, i32_w]
                 rfl
                refine pA_ 4 30 ?_ (b_ 40 31) (any_of HT_.out (by kernel_rfl)) rfl rfl (fun _ _ _ h => h) (by rfl) ?_ ?_ ?_ ?_
                rotate_left
                ·
                 intro w'
                 go_simp
                 with_reducible rfl
                rotate_left
                ·
                 simp only [Act.put, sa_, s0_, s1_, i64_w, i32_w]
                 rfl
                refine pA_ 5 31 ?_ (b_ 40 63) (any_of HT_.out (by kernel_rfl)) rfl rfl (fun _ _ _ h => h) (by rfl) ?_ ?_ ?_ ?_
                rotate_left
                ·
                 intro w'
                 go_simp
                 with_reducible rfl
                rotate_left
                ·
                 simp only [Act.put, sa_, s0_, s1_, i64_w, i32_w]
                 rfl
                refine pA_ 6 32 ?_ (b_ 40 127) (any_of HT_.out (by kernel_rfl)) rfl rfl (fun _ _ _ h => h) (by rfl) ?_ ?_ ?_ ?_
                rotate_left
                ·
                 intro w'
                 go_simp
                 with_reducible rfl
                rotate_left
                ·
                 simp only [Act.put, sa_, s0_, s1_, i64_w, i32_w]
                 rfl
                refine pA_ 7 33 ?_ (b_ 40 255) (any_of HT_.out (by kernel_rfl)) rfl rfl (fun _ _ _ h => h) (by rfl) ?_ ?_ ?_ ?_
                rotate_left
                ·
                 intro w'
                 go_simp
                 with_reducible rfl
                rotate_left
                ·
                 simp only [Act.put, sa_, s0_, s1_, i64_w, i32_w]
                 rfl
                refine pA_ 9 35 ?_ (b_ 40 767) (any_of HT_.out (by kernel_rfl)) rfl rfl (fun _ _ _ h => h) (by rfl) ?_ ?_ ?_ ?_
                rotate_left
                ·
                 intro w'
                 go_simp
                 with_reducible rfl
                rotate_left
                ·
                 simp only [Act.put, sa_, s0_, s1_, i64_w, i32_w]
                 rfl
                refine pA_ 10 36 ?_ (b_ 40 1791) (any_of HT_.out (by kernel_rfl)) rfl rfl (fun _ _ _ h => h) (by rfl) ?_ ?_ ?_ ?_
                rotate_left
                ·
                 intro w'
                 go_simp
                 with_reducible rfl
                rotate_left
                ·
                 simp only [Act.put, sa_, s0_, s1_, i64_w, i32_w]
                 rfl
                refine pA_ 11 37 ?_ (b_ 40 3839) (any_of HT_.out (by kernel_rfl)) rfl rfl (fun _ _ _ h => h) (by rfl) ?_ ?_ ?_ ?_
                rotate_left
                ·
                 intro w'
                 go_simp
                 with_reducible rfl
                rotate_left
                ·
                 simp only [Act.put, sa_, s0_, s1_, i64_w, i32_w]
                 rfl
                refine pA_ 12 38 ?_ (b_ 40 7935) (any_of HT_.out (by kernel_rfl)) rfl rfl (fun _ _ _ h => h) (by rfl) ?_ ?_ ?_ ?_
                rotate_left
                ·
                 intro w'
                 go_simp
                 with_reducible rfl
                rotate_left
                ·
                 simp only [Act.put, sa_, s0_, s1_, i64_w, i32_w]
                 rfl
                refine pA_ 13 39 ?_ (b_ 40 16127) (any_of HT_.out (by kernel_rfl)) rfl rfl (fun _ _ _ h => h) (by rfl) ?_ ?_ ?_ ?_
                rotate_left
                ·
                 intro w'
                 go_simp
                 with_reducible rfl
                rotate_left
                ·
                 simp only [Act.put, sa_, s0_, s1_, i64_w, i32_w]
                 rfl
                refine tA_ 8 34 ?_ (b_ 40 16383) (take_ofW HT_.out HW_.out (by kernel_rfl)) rfl rfl (fun _ _ _ h => h) (by rfl) ?_ hHeld ?_ ?_ ?_
                rotate_left
                ·
                 rintro w' ⟨s0, s1, s2, s3, s4, s5, s6, s7, s8, s9, s10, s11, s12, s13, s14, s15⟩
                 go_simp
                 with_reducible rfl
                rotate_left
                ·
                 simp only [Act.put, sa_, s0_, s1_, i64_w, i32_w]
                 rfl
                refine tA_ 14 40 ?_ (b_ 40 32767) (take_ofW HT_.out HW_.out (by kernel_rfl)) rfl rfl (fun _ _ _ h => h) (by rfl) ?_ hHeld ?_ ?_ ?_
                rotate_left
                ·
                 rintro w' ⟨s0, s1, s2, s3, s4, s5, s6, s7, s8, s9, s10, s11, s12, s13, s14, s15⟩
                 go_simp
                 with_reducible rfl
                rotate_left
                ·
                 simp only [Act.put, sa_, s0_, s1_, i64_w, i32_w]
                 rfl
                refine pA_ 15 41 ?_ (b_ 40 65535) (any_of HT_.out (by kernel_rfl)) rfl rfl (fun _ _ _ h => h) (by rfl) ?_ ?_ ?_ ?_
                rotate_left
                ·
                 intro w'
                 go_simp
                 with_reducible rfl
                rotate_left
                ·
                 simp only [Act.put, sa_, s0_, s1_, i64_w, i32_w]
                 rfl
                refine pA_ 16 42 ?_ (b_ 40 131071) (any_of HT_.out (by kernel_rfl)) rfl rfl (fun _ _ _ h => h) (by rfl) ?_ ?_ ?_ ?_
                rotate_left
                ·
                 intro w'
                 go_simp
                 with_reducible rfl
                rotate_left
                ·
                 simp only [Act.put, sa_, s0_, s1_, i64_w, i32_w]
                 rfl
                refine pA_ 17 43 ?_ (b_ 40 262143) (any_of HT_.out (by kernel_rfl)) rfl rfl (fun _ _ _ h => h) (by rfl) ?_ ?_ ?_ ?_
                rotate_left
                ·
                 intro w'
                 go_simp
                 with_reducible rfl
                rotate_left
                ·
                 simp only [Act.put, sa_, s0_, s1_, i64_w, i32_w]
                 rfl
                refine pA_ 19 45 ?_ (b_ 40 786431) (any_of HT_.out (by kernel_rfl)) rfl rfl (fun _ _ _ h => h) (by rfl) ?_ ?_ ?_ ?_
                rotate_left
                ·
                 intro w'
                 go_simp
                 with_reducible rfl
                rotate_left
                ·
                 simp only [Act.put, sa_, s0_, s1_, i64_w, i32_w]
                 rfl
                refine pA_ 20 46 ?_ (b_ 40 1835007) (any_of HT_.out (by kernel_rfl)) rfl rfl (fun _ _ _ h => h) (by rfl) ?_ ?_ ?_ ?_
                rotate_left
                ·
                 intro w'
                 go_simp
                 with_reducible rfl
                rotate_left
                ·
                 simp only [Act.put, sa_, s0_, s1_, i64_w, i32_w]
                 rfl
                refine pA_ 21 47 ?_ (b_ 40 3932159) (any_of HT_.out (by kernel_rfl)) rfl rfl (fun _ _ _ h => h) (by rfl) ?_ ?_ ?_ ?_
                rotate_left
                ·
                 intro w'
                 go_simp
                 with_reducible rfl
                rotate_left
                ·
                 simp only [Act.put, sa_, s0_, s1_, i64_w, i32_w]
                 rfl
                refine pA_ 22 48 ?_ (b_ 40 8126463) (any_of HT_.out (by kernel_rfl)) rfl rfl (fun _ _ _ h => h) (by rfl) ?_ ?_ ?_ ?_
                rotate_left
                ·
                 intro w'
                 go_simp
                 with_reducible rfl
                rotate_left
                ·
                 simp only [Act.put, sa_, s0_, s1_, i64_w, i32_w]
                 rfl
                refine pA_ 23 49 ?_ (b_ 40 16515071) (any_of HT_.out (by kernel_rfl)) rfl rfl (fun _ _ _ h => h) (by rfl) ?_ ?_ ?_ ?_
                rotate_left
                ·
                 intro w'
                 go_simp
                 with_reducible rfl
                rotate_left
                ·
                 simp only [Act.put, sa_, s0_, s1_, i64_w, i32_w]
                 rfl
                refine tA_ 18 44 ?_ (b_ 40 16777215) (take_ofW HT_.out HW_.out (by kernel_rfl)) rfl rfl (fun _ _ _ h => h) (by rfl) ?_ hHeld ?_ ?_ ?_
                rotate_left
                ·
                 rintro w' ⟨s0, s1, s2, s3, s4, s5, s6, s7, s8, s9, s10, s11, s12, s13, s14, s15⟩
                 go_simp
                 with_reducible rfl
                rotate_left
                ·
                 simp only [Act.put, sa_, s0_, s1_, i64_w, i32_w]
                 rfl
                refine tA_ 24 50 ?_ (b_ 40 33554431) (take_ofW HT_.out HW_.out (by kernel_rfl)) rfl rfl (fun _ _ _ h => h) (by rfl) ?_ hHeld ?_ ?_ ?_
                rotate_left
                ·
                 rintro w' ⟨s0, s1, s2, s3, s4, s5, s6, s7, s8, s9, s10, s11, s12, s13, s14, s15⟩
                 go_simp
                 with_reducible rfl
                rotate_left
                ·
                 simp only [Act.put, sa_, s0_, s1_, i64_w, i32_w]
                 rfl
                refine pA_ 25 51 ?_ (b_ 40 67108863) (any_of HT_.out (by kernel_rfl)) rfl rfl (fun _ _ _ h => h) (by rfl) ?_ ?_ ?_ ?_
                rotate_left
                ·
                 intro w'
                 go_simp
                 with_reducible rfl
                rotate_left
                ·
                 simp only [Act.put, sa_, s0_, s1_, i64_w, i32_w]
                 rfl
                refine pA_ 26 52 ?_ (b_ 40 134217727) (any_of HT_.out (by kernel_rfl)) rfl rfl (fun _ _ _ h => h) (by rfl) ?_ ?_ ?_ ?_
                rotate_left
                ·
                 intro w'
                 go_simp
                 with_reducible rfl
                rotate_left
                ·
                 simp only [Act.put, sa_, s0_, s1_, i64_w, i32_w]
                 rfl
                refine pA_ 27 53 ?_ (b_ 40 268435455) (any_of HT_.out (by kernel_rfl)) rfl rfl (fun _ _ _ h => h) (by rfl) ?_ ?_ ?_ ?_
                rotate_left
                ·
                 intro w'
                 go_simp
                 with_reducible rfl
                rotate_left
                ·
                 simp only [Act.put, sa_, s0_, s1_, i64_w, i32_w]
                 rfl
                refine pA_ 29 55 ?_ (b_ 40 805306367) (any_of HT_.out (by kernel_rfl)) rfl rfl (fun _ _ _ h => h) (by rfl) ?_ ?_ ?_ ?_
                rotate_left
                ·
                 intro w'
                 go_simp
                 with_reducible rfl
                rotate_left
                ·
                 simp only [Act.put, sa_, s0_, s1_, i64_w, i32_w]
                 rfl
                refine pA_ 30 56 ?_ (b_ 40 1879048191) (any_of HT_.out (by kernel_rfl)) rfl rfl (fun _ _ _ h => h) (by rfl) ?_ ?_ ?_ ?_
                rotate_left
                ·
                 intro w'
                 go_simp
                 with_reducible rfl
                rotate_left
                ·
                 simp only [Act.put, sa_, s0_, s1_, i64_w, i32_w]
                 rfl
                refine pA_ 31 57 ?_ (b_ 40 4026531839) (any_of HT_.out (by kernel_rfl)) rfl rfl (fun _ _ _ h => h) (by rfl) ?_ ?_ ?_ ?_
                rotate_left
                ·
                 intro w'
                 go_simp
                 with_reducible rfl
                rotate_left
                ·
                 simp only [Act.put, sa_, s0_, s1_, i64_w, i32_w]
                 rfl
                refine pA_ 32 58 ?_ (b_ 40 8321499135) (any_of HT_.out (by kernel_rfl)) rfl rfl (fun _ _ _ h => h) (by rfl) ?_ ?_ ?_ ?_
                rotate_left
                ·
                 intro w'
                 go_simp
                 with_reducible rfl
                rotate_left
                ·
                 simp only [Act.put, sa_, s0_, s1_, i64_w, i32_w]
                 rfl
                refine pA_ 33 59 ?_ (b_ 40 16911433727) (any_of HT_.out (by kernel_rfl)) rfl rfl (fun _ _ _ h => h) (by rfl) ?_ ?_ ?_ ?_
                rotate_left
                ·
                 intro w'
                 go_simp
                 with_reducible rfl
                rotate_left
                ·
                 simp only [Act.put, sa_, s0_, s1_, i64_w, i32_w]
                 rfl
                refine tA_ 28 54 ?_ (b_ 40 17179869183) (take_ofW HT_.out HW_.out (by kernel_rfl)) rfl rfl (fun _ _ _ h => h) (by rfl) ?_ hHeld ?_ ?_ ?_
                rotate_left
                ·
                 rintro w' ⟨s0, s1, s2, s3, s4, s5, s6, s7, s8, s9, s10, s11, s12, s13, s14, s15⟩
                 go_simp
                 with_reducible rfl
                rotate_left
                ·
                 simp only [Act.put, sa_, s0_, s1_, i64_w, i32_w]
                 rfl
                refine tA_ 34 60 ?_ (b_ 40 34359738367) (take_ofW HT_.out HW_.out (by kernel_rfl)) rfl rfl (fun _ _ _ h => h) (by rfl) ?_ hHeld ?_ ?_ ?_
                rotate_left
                ·
                 rintro w' ⟨s0, s1, s2, s3, s4, s5, s6, s7, s8, s9, s10, s11, s12, s13, s14, s15⟩
                 go_simp
                 with_reducible rfl
                rotate_left
                ·
                 simp only [Act.put, sa_, s0_, s1_, i64_w, i32_w]
                 rfl
                refine pA_ 35 61 ?_ (b_ 40 68719476735) (any_of HT_.out (by kernel_rfl)) rfl rfl (fun _ _ _ h => h) (by rfl) ?_ ?_ ?_ ?_
                rotate_left
                ·
                 intro w'
                 go_simp
                 with_reducible rfl
                rotate_left
                ·
                 simp only [Act.put, sa_, s0_, s1_, i64_w, i32_w]
                 rfl
                refine pA_ 36 62 ?_ (b_ 40 137438953471) (any_of HT_.out (by kernel_rfl)) rfl rfl (fun _ _ _ h => h) (by rfl) ?_ ?_ ?_ ?_
                rotate_left
                ·
                 intro w'
                 go_simp
                 with_reducible rfl
                rotate_left
                ·
                 simp only [Act.put, sa_, s0_, s1_, i64_w, i32_w]
                 rfl
                refine pA_ 37 63 ?_ (b_ 40 274877906943) (any_of HT_.out (by kernel_rfl)) rfl rfl (fun _ _ _ h => h) (by rfl) ?_ ?_ ?_ ?_
                rotate_left
                ·
                 intro w'
                 go_simp
                 with_reducible rfl
                rotate_left
                ·
                 simp only [Act.put, sa_, s0_, s1_, i64_w, i32_w]
                 rfl
                refine pA_ 38 64 ?_ (b_ 40 549755813887) (any_of HT_.out (by kernel_rfl)) rfl rfl (fun _ _ _ h => h) (by rfl) ?_ ?_ ?_ ?_
                rotate_left
                ·
                 intro w'
                 go_simp
                 with_reducible rfl
                rotate_left
                ·
                 simp only [Act.put, sa_, s0_, s1_, i64_w, i32_w]
                 rfl
                refine pA_ 39 65 ?_ (b_ 40 1099511627775) (any_of HT_.out (by kernel_rfl)) rfl rfl (fun _ _ _ h => h) (by rfl) ?_ ?_ ?_ ?_
                rotate_left
                ·
                 intro w'
                 go_simp
                 with_reducible rfl
                rotate_left
                ·
                 simp only [Act.put, sa_, s0_, s1_, i64_w, i32_w]
                 rfl
                refine done_ (done_of HT_.out (by kernel_rfl)) ?_
                try go_wp2
                go_ret2
                exact ⟨_, by first | rfl | (simp [errW_none, errW_some] <;> rfl) | (simp only [← hji11]; first | rfl | (simp [errW_none, errW_some] <;> rfl)) | (simp [*, errW_none, errW_some] <;> rfl) | exact ret_ie _ | (simp [*, errW_none, errW_some, bne]; done), by first | exact Kd.R_nil _ _ _ _ _ | exact Kd.N_nil _ _ _ _ _ | exact Kd.V_nil _ _ _ _ _ | exact Kd.Q_nil _ _ _ _ _ | exact Kd.S_nil _ _ _ _ _, by repeat (first | (with_reducible first | exact HB.out | apply below_alloc | apply pw_below_drewN | apply below_drew1 | refine below_set ?_ GE118.out) | exact HB.out)⟩
               ·
                rw [if_neg c21] at H
                have c21b0 : decide (((rd_T39 l0 (ji11)).f1) ≤ ((rd_T39 l0 x21_2).f1)) = false := decide_eq_false c21
                clear c21
                have H' := Aside0.mk H
                clear H
                have p117 : 0 ≤ (x21_2 : Int) := of_decide_eq_true (by first | (with_reducible assumption) | assumption)
                have q117 : x21_2 < (l0.length : Int) := of_decide_eq_true (by first | (with_reducible assumption) | assumption)
                obtain ⟨ad117, e117, hx117_0, hx117_1, hx117_2, hx117_3⟩ := at_T39 HR0.out x21_2 p117 q117
                cases e117
                replace hx117_0 := cl_ HB.out hx117_0
                replace hx117_1 := cl_ HB.out hx117_1
                replace hx117_2 := cl_ HB.out hx117_2
                replace hx117_3 := cl_ HB.out hx117_3
                replace p117 := eq_true p117
                replace q117 := eq_true q117
                try go_wp2_with (first | ((with_reducible refine gate_dst (N := 5) rfl ?_); (try (refine gate_guard (by rfl) ?_; dsimp only)); refine box_event ?hg (N := 5) ?hd (cs := #[.string (⟨#[]⟩ : ByteArray), .int .i64 0, .bool false, .string (⟨#[]⟩ : ByteArray)]) (t := 39) ?hr ?_; (case hd => rfl); (case hg => rfl); (case hr => first | (go_simp; done) | (go_simp; rfl)); intro gb118 hg w27 hbox hb; have n0_ := Aside0.mk (below_step (by repeat (first | (with_reducible first | exact HB.out | apply below_alloc | apply pw_below_drewN | apply below_drew1) | exact HB.out)) hb); have n1_ := Aside0.mk (hbox); have n2_ := Aside0.mk ((by rw [hg]; exact (below_size (by repeat (first | (with_reducible first | exact HB.out | apply below_alloc | apply pw_below_drewN | apply below_drew1) | exact HB.out))) : w.heap.size ≤ gb118)); have n3_ := Aside0.mk ((by rw [hg]; exact (below_size (by repeat (first | (with_reducible first | exact HB.out | apply below_alloc | apply pw_below_drewN | apply below_drew1) | exact HB.out))) : w.heap.size ≤ gb118)); clear HB; have HB := n0_; have BK118 := n1_; have GW118 := n2_; have GE118 := n3_; clear n0_ n1_ n2_ n3_; clear hb hbox hg; have hcz28_0 : w27.cell? ⟨gb118, 0, none⟩ = some (.string (⟨#[]⟩ : ByteArray)) := (blk_cell BK118.out 0).trans rfl; have hcz28_1 : w27.cell? ⟨gb118, 1, none⟩ = some (.int .i64 0) := (blk_cell BK118.out 1).trans rfl; have hcz28_2 : w27.cell? ⟨gb118, 2, none⟩ = some (.bool false) := (blk_cell BK118.out 2).trans rfl; have hcz28_3 : w27.cell? ⟨gb118, 3, none⟩ = some (.string (⟨#[]⟩ : ByteArray)) := (blk_cell BK118.out 3).trans rfl; have hfz28_0 := blk_frozen BK118.out 0; have hfz28_1 := blk_frozen BK118.out 1; have hfz28_2 := blk_frozen BK118.out 2; have hfz28_3 := blk_frozen BK118.out 3))
                have n0_ : Aside0 (((((w27.setCell ⟨gb118, 0, none⟩ (.string ((rd_T39 l0 x21_2).f0))).setCell ⟨gb118, 1, none⟩ (.int .i64 ((rd_T39 l0 x21_2).f1))).setCell ⟨gb118, 2, none⟩ (.bool ((rd_T39 l0 x21_2).f2))).setCell ⟨gb118, 3, none⟩ (.string ((rd_T39 l0 x21_2).f3))).heap[gb118]? = some (.cells #[.string ((rd_T39 l0 x21_2).f0), .int .i64 ((rd_T39 l0 x21_2).f1), .bool ((rd_T39 l0 x21_2).f2), .string ((rd_T39 l0 x21_2).f3)] 39 (0, 0))) := ⟨by (with_reducible repeat (first | refine blk_drewN ?_ _ | refine blk_drew ?_ | refine blk_alloc ?_ _)); refine blk_put (cs := #[.string ((rd_T39 l0 x21_2).f0), .int .i64 ((rd_T39 l0 x21_2).f1), .bool ((rd_T39 l0 x21_2).f2), .string (⟨#[]⟩ : ByteArray)]) ?_ 3 _ rfl; (with_reducible repeat (first | refine blk_drewN ?_ _ | refine blk_drew ?_ | refine blk_alloc ?_ _)); refine blk_put (cs := #[.string ((rd_T39 l0 x21_2).f0), .int .i64 ((rd_T39 l0 x21_2).f1), .bool false, .string (⟨#[]⟩ : ByteArray)]) ?_ 2 _ rfl; (with_reducible repeat (first | refine blk_drewN ?_ _ | refine blk_drew ?_ | refine blk_alloc ?_ _)); refine blk_put (cs := #[.string ((rd_T39 l0 x21_2).f0), .int .i64 0, .bool false, .string (⟨#[]⟩ : ByteArray)]) ?_ 1 _ rfl; (with_reducible repeat (first | refine blk_drewN ?_ _ | refine blk_drew ?_ | refine blk_alloc ?_ _)); refine blk_put (cs := #[.string (⟨#[]⟩ : ByteArray), .int .i64 0, .bool false, .string (⟨#[]⟩ : ByteArray)]) ?_ 0 _ rfl; (with_reducible repeat (first | refine blk_drewN ?_ _ | refine blk_drew ?_ | refine blk_alloc ?_ _)); exact BK118.out⟩
                have n1_ : Aside0 (Below w.heap.size w ((((w27.setCell ⟨gb118, 0, none⟩ (.string ((rd_T39 l0 x21_2).f0))).setCell ⟨gb118, 1, none⟩ (.int .i64 ((rd_T39 l0 x21_2).f1))).setCell ⟨gb118, 2, none⟩ (.bool ((rd_T39 l0 x21_2).f2))).setCell ⟨gb118, 3, none⟩ (.string ((rd_T39 l0 x21_2).f3)))) := ⟨by repeat (first | (with_reducible first | exact HB.out | apply below_alloc | apply pw_below_drewN | apply below_drew1 | refine below_set ?_ GE118.out) | exact HB.out)⟩
                (try clear BK118)
                (try clear HB)
                generalize ((((w27.setCell ⟨gb118, 0, none⟩ (.string ((rd_T39 l0 x21_2).f0))).setCell ⟨gb118, 1, none⟩ (.int .i64 ((rd_T39 l0 x21_2).f1))).setCell ⟨gb118, 2, none⟩ (.bool ((rd_T39 l0 x21_2).f2))).setCell ⟨gb118, 3, none⟩ (.string ((rd_T39 l0 x21_2).f3))) = w29 at n0_ n1_ ⊢
                have BK118 := n0_
                have HB := n1_
                clear n0_ n1_
                obtain ⟨BK118, HB⟩ := And.intro (Aside0.mk (blk_drew BK118.out)) (Aside0.mk (below_drew1 HB.out))
                have p120 : 0 ≤ ((ji11) : Int) := of_decide_eq_true (by first | (with_reducible assumption) | assumption)
                have q120 : (ji11) < (l0.length : Int) := of_decide_eq_true (by first | (with_reducible assumption) | assumption)
                obtain ⟨ad120, e120, hx120_0, hx120_1, hx120_2, hx120_3⟩ := at_T39 HR0.out (ji11) p120 q120
                have hw120_3 := hx120_3
                have hw120_2 := hx120_2
                have hw120_1 := hx120_1
                have hw120_0 := hx120_0
                obtain rfl : ad117 = ad120 := (by injection e120)
                replace hx120_0 := cl_ HB.out hx120_0
                replace hx120_1 := cl_ HB.out hx120_1
                replace hx120_2 := cl_ HB.out hx120_2
                replace hx120_3 := cl_ HB.out hx120_3
                replace p120 := eq_true p120
                replace q120 := eq_true q120
                have p121 : 0 ≤ ((ji11) : Int) := of_decide_eq_true (by first | (with_reducible assumption) | assumption)
                have q121 : (ji11) < (l0.length : Int) := of_decide_eq_true (by first | (with_reducible assumption) | assumption)
                obtain ⟨ad121, e121, hx121_0, hx121_1, hx121_2, hx121_3⟩ := at_T39 HR0.out (ji11) p121 q121
                have hw121_3 := hx121_3
                have hw121_2 := hx121_2
                have hw121_1 := hx121_1
                have hw121_0 := hx121_0
                obtain rfl : ad117 = ad121 := (by injection e121)
                replace hx121_0 := cl_ HB.out hx121_0
                replace hx121_1 := cl_ HB.out hx121_1
                replace hx121_2 := cl_ HB.out hx121_2
                replace hx121_3 := cl_ HB.out hx121_3
                replace p121 := eq_true p121
                replace q121 := eq_true q121
                have p122 : 0 ≤ ((ji11) : Int) := of_decide_eq_true (by first | (with_reducible assumption) | assumption)
                have q122 : (ji11) < (l0.length : Int) := of_decide_eq_true (by first | (with_reducible assumption) | assumption)
                obtain ⟨ad122, e122, hx122_0, hx122_1, hx122_2, hx122_3⟩ := at_T39 HR0.out (ji11) p122 q122
                have hw122_3 := hx122_3
                have hw122_2 := hx122_2
                have hw122_1 := hx122_1
                have hw122_0 := hx122_0
                obtain rfl : ad117 = ad122 := (by injection e122)
                replace hx122_0 := cl_ HB.out hx122_0
                replace hx122_1 := cl_ HB.out hx122_1
                replace hx122_2 := cl_ HB.out hx122_2
                replace hx122_3 := cl_ HB.out hx122_3
                replace p122 := eq_true p122
                replace q122 := eq_true q122
                refine start_ (n := 40) (S := fun w' => w'.cell? ⟨gb118, 0, none⟩ = some (.string ((rd_T39 l0 x21_2).f0)) ∧ w'.cell? ⟨gb118, 1, none⟩ = some (.int .i64 ((rd_T39 l0 x21_2).f1)) ∧ w'.cell? ⟨gb118, 2, none⟩ = some (.bool ((rd_T39 l0 x21_2).f2)) ∧ w'.cell? ⟨gb118, 3, none⟩ = some (.string ((rd_T39 l0 x21_2).f3)) ∧ w'.cell? (ad117.add (((ji11)).toNat * 4)) = some (.string ((rd_T39 l0 (ji11)).f0)) ∧ w'.cell? ⟨(ad117.add (((ji11)).toNat * 4)).block, (ad117.add (((ji11)).toNat * 4)).off + 1, none⟩ = some (.int .i64 ((rd_T39 l0 (ji11)).f1)) ∧ w'.cell? ⟨(ad117.add (((ji11)).toNat * 4)).block, (ad117.add (((ji11)).toNat * 4)).off + 2, none⟩ = some (.bool ((rd_T39 l0 (ji11)).f2)) ∧ w'.cell? ⟨(ad117.add (((ji11)).toNat * 4)).block, (ad117.add (((ji11)).toNat * 4)).off + 3, none⟩ = some (.string ((rd_T39 l0 (ji11)).f3)) ∧ w'.cell? (ad117.add (((ji11)).toNat * 4)) = some (.string ((rd_T39 l0 (ji11)).f0)) ∧ w'.cell? ⟨(ad117.add (((ji11)).toNat * 4)).block, (ad117.add (((ji11)).toNat * 4)).off + 1, none⟩ = some (.int .i64 ((rd_T39 l0 (ji11)).f1)) ∧ w'.cell? ⟨(ad117.add (((ji11)).toNat * 4)).block, (ad117.add (((ji11)).toNat * 4)).off + 2, none⟩ = some (.bool ((rd_T39 l0 (ji11)).f2)) ∧ w'.cell? ⟨(ad117.add (((ji11)).toNat * 4)).block, (ad117.add (((ji11)).toNat * 4)).off + 3, none⟩ = some (.string ((rd_T39 l0 (ji11)).f3)) ∧ w'.cell? (ad117.add (((ji11)).toNat * 4)) = some (.string ((rd_T39 l0 (ji11)).f0)) ∧ w'.cell? ⟨(ad117.add (((ji11)).toNat * 4)).block, (ad117.add (((ji11)).toNat * 4)).off + 1, none⟩ = some (.int .i64 ((rd_T39 l0 (ji11)).f1)) ∧ w'.cell? ⟨(ad117.add (((ji11)).toNat * 4)).block, (ad117.add (((ji11)).toNat * 4)).off + 2, none⟩ = some (.bool ((rd_T39 l0 (ji11)).f2)) ∧ w'.cell? ⟨(ad117.add (((ji11)).toNat * 4)).block, (ad117.add (((ji11)).toNat * 4)).off + 3, none⟩ = some (.string ((rd_T39 l0 (ji11)).f3))) (ds := []) (b_ 40 0) (by kernel_rfl) rfl rfl ⟨(blk_cell BK118.out 0).trans rfl, (blk_cell BK118.out 1).trans rfl, (blk_cell BK118.out 2).trans rfl, (blk_cell BK118.out 3).trans rfl, (cl_ HB.out hw120_0), (cl_ HB.out hw120_1), (cl_ HB.out hw120_2), (cl_ HB.out hw120_3), (cl_ HB.out hw121_0), (cl_ HB.out hw121_1), (cl_ HB.out hw121_2), (cl_ HB.out hw121_3), (cl_ HB.out hw122_0), (cl_ HB.out hw122_1), (cl_ HB.out hw122_2), (cl_ HB.out hw122_3)⟩ (fun hHeld => ?_); refine with_tabW block_Write.tab6 block_Write.bits6 (fun HT_ HW_ => ?_)
                generalize w29.drew = w30 at BK118 HB hx120_0 hx120_1 hx120_2 hx120_3 hx121_0 hx121_1 hx121_2 hx121_3 hx122_0 hx122_1 hx122_2 hx122_3 hHeld ⊢
                refine tA_ 0 26 ?_ (b_ 40 1) (take_ofW HT_.out HW_.out (by kernel_rfl)) rfl rfl (fun _ _ _ h => h) (by rfl) ?_ hHeld ?_ ?_ ?_
                rotate_left
                ·
                 rintro w' ⟨s0, s1, s2, s3, s4, s5, s6, s7, s8, s9, s10, s11, s12, s13, s14, s15⟩
                 go_simp
                 with_reducible rfl
                rotate_left
                ·
                 simp only [Act.put, sa_, s0_, s1_, i64_w, i32_w]
                 rfl
                refine one_ (i := 1) (N := some 27) (b_ 40 3) rfl rfl (one_of HT_.out (by kernel_rfl)) (by decide) (fun K hK => ?_)
                refine goes_ Try.func20 (by kernel_rfl) rfl #[.agg #[.string ((rd_T39 l0 x21_2).f0), .int .i64 ((rd_T39 l0 x21_2).f1), .bool ((rd_T39 l0 x21_2).f2), .string ((rd_T39 l0 x21_2).f3)]] (by rfl) rfl rfl (by (try simp only [List.map_toArray, List.map_cons, List.map_nil]); first | done | rfl | (simp only [List.length_drop, List.length_take]; rfl)) ?_
                with_reducible refine (block_may.calls ((rd_T39 l0 x21_2).f0) ((rd_T39 l0 x21_2).f1) ((rd_T39 l0 x21_2).f2) ((rd_T39 l0 x21_2).f3) true _ A8.out).mono ?_
                rintro e w31 ⟨rfl, hb⟩
                refine ⟨_, rfl, ?_⟩
                obtain ⟨BK118, HB⟩ := And.intro (Aside0.mk (blk_below (g := gb118) (o := .cells #[.string ((rd_T39 l0 x21_2).f0), .int .i64 ((rd_T39 l0 x21_2).f1), .bool ((rd_T39 l0 x21_2).f2), .string ((rd_T39 l0 x21_2).f3)] 39 (0, 0)) (by (with_reducible repeat (first | refine blk_drewN ?_ _ | refine blk_drew ?_ | refine blk_alloc ?_ _)); exact BK118.out) hb)) (Aside0.mk (below_step (by repeat (first | (with_reducible first | exact HB.out | apply below_alloc | apply pw_below_drewN | apply below_drew1 | refine below_set ?_ GE118.out) | exact HB.out)) hb))
                (try clear hb)
                (try clear hb2)
                (try clear hk)
                (try clear hi)
                refine hK.out _ _ ⟨(blk_cell BK118.out 0).trans rfl, (blk_cell BK118.out 1).trans rfl, (blk_cell BK118.out 2).trans rfl, (blk_cell BK118.out 3).trans rfl, (cl_ HB.out hw120_0), (cl_ HB.out hw120_1), (cl_ HB.out hw120_2), (cl_ HB.out hw120_3), (cl_ HB.out hw121_0), (cl_ HB.out hw121_1), (cl_ HB.out hw121_2), (cl_ HB.out hw121_3), (cl_ HB.out hw122_0), (cl_ HB.out hw122_1), (cl_ HB.out hw122_2), (cl_ HB.out hw122_3)⟩ (fun hHeld => ?_)
                clear hK K
                refine norm_ (a' := ?_) ?_ ?_
                rotate_left
                ·
                 show Act.put _ (some 27) _ = _
                 simp only [Act.put, sa_, s0_, s1_, i64_w, i32_w]
                 rfl
                refine pA_ 2 28 ?_ (b_ 40 7) (any_of HT_.out (by kernel_rfl)) rfl rfl (fun _ _ _ h => h) (by rfl) ?_ ?_ ?_ ?_
                rotate_left
                ·
                 intro w'
                 go_simp
                 with_reducible rfl
                rotate_left
                ·
                 simp only [Act.put, sa_, s0_, s1_, i64_w, i32_w]
                 rfl
                refine pA_ 3 29 ?_ (b_ 40 15) (any_of HT_.out (by kernel_rfl)) rfl rfl (fun _ _ _ h => h) (by rfl) ?_ ?_ ?_ ?_
                rotate_left
                ·
                 intro w'
                 go_simp
                 with_reducible rfl
                rotate_left
                ·
                 simp only [Act.put, sa_, s0_, s1_, i64_w, i32_w]
                 rfl
                refine pA_ 4 30 ?_ (b_ 40 31) (any_of HT_.out (by kernel_rfl)) rfl rfl (fun _ _ _ h => h) (by rfl) ?_ ?_ ?_ ?_
                rotate_left
                ·
                 intro w'
                 go_simp
                 with_reducible rfl
                rotate_left
                ·
                 simp only [Act.put, sa_, s0_, s1_, i64_w, i32_w]
                 rfl
                refine pA_ 5 31 ?_ (b_ 40 63) (any_of HT_.out (by kernel_rfl)) rfl rfl (fun _ _ _ h => h) (by rfl) ?_ ?_ ?_ ?_
                rotate_left
                ·
                 intro w'
                 go_simp
                 with_reducible rfl
                rotate_left
                ·
                 simp only [Act.put, sa_, s0_, s1_, i64_w, i32_w]
                 rfl
                refine pA_ 6 32 ?_ (b_ 40 127) (any_of HT_.out (by kernel_rfl)) rfl rfl (fun _ _ _ h => h) (by rfl) ?_ ?_ ?_ ?_
                rotate_left
                ·
                 intro w'
                 go_simp
                 with_reducible rfl
                rotate_left
                ·
                 simp only [Act.put, sa_, s0_, s1_, i64_w, i32_w]
                 rfl
                refine pA_ 7 33 ?_ (b_ 40 255) (any_of HT_.out (by kernel_rfl)) rfl rfl (fun _ _ _ h => h) (by rfl) ?_ ?_ ?_ ?_
                rotate_left
                ·
                 intro w'
                 go_simp
                 with_reducible rfl
                rotate_left
                ·
                 simp only [Act.put, sa_, s0_, s1_, i64_w, i32_w]
                 rfl
                refine pA_ 9 35 ?_ (b_ 40 767) (any_of HT_.out (by kernel_rfl)) rfl rfl (fun _ _ _ h => h) (by rfl) ?_ ?_ ?_ ?_
                rotate_left
                ·
                 intro w'
                 go_simp
                 with_reducible rfl
                rotate_left
                ·
                 simp only [Act.put, sa_, s0_, s1_, i64_w, i32_w]
                 rfl
                refine pA_ 10 36 ?_ (b_ 40 1791) (any_of HT_.out (by kernel_rfl)) rfl rfl (fun _ _ _ h => h) (by rfl) ?_ ?_ ?_ ?_
                rotate_left
                ·
                 intro w'
                 go_simp
                 with_reducible rfl
                rotate_left
                ·
                 simp only [Act.put, sa_, s0_, s1_, i64_w, i32_w]
                 rfl
                refine pA_ 11 37 ?_ (b_ 40 3839) (any_of HT_.out (by kernel_rfl)) rfl rfl (fun _ _ _ h => h) (by rfl) ?_ ?_ ?_ ?_
                rotate_left
                ·
                 intro w'
                 go_simp
                 with_reducible rfl
                rotate_left
                ·
                 simp only [Act.put, sa_, s0_, s1_, i64_w, i32_w]
                 rfl
                refine pA_ 12 38 ?_ (b_ 40 7935) (any_of HT_.out (by kernel_rfl)) rfl rfl (fun _ _ _ h => h) (by rfl) ?_ ?_ ?_ ?_
                rotate_left
                ·
                 intro w'
                 go_simp
                 with_reducible rfl
                rotate_left
                ·
                 simp only [Act.put, sa_, s0_, s1_, i64_w, i32_w]
                 rfl
                refine pA_ 13 39 ?_ (b_ 40 16127) (any_of HT_.out (by kernel_rfl)) rfl rfl (fun _ _ _ h => h) (by rfl) ?_ ?_ ?_ ?_
                rotate_left
                ·
                 intro w'
                 go_simp
                 with_reducible rfl
                rotate_left
                ·
                 simp only [Act.put, sa_, s0_, s1_, i64_w, i32_w]
                 rfl
                refine tA_ 8 34 ?_ (b_ 40 16383) (take_ofW HT_.out HW_.out (by kernel_rfl)) rfl rfl (fun _ _ _ h => h) (by rfl) ?_ hHeld ?_ ?_ ?_
                rotate_left
                ·
                 rintro w' ⟨s0, s1, s2, s3, s4, s5, s6, s7, s8, s9, s10, s11, s12, s13, s14, s15⟩
                 go_simp
                 with_reducible rfl
                rotate_left
                ·
                 simp only [Act.put, sa_, s0_, s1_, i64_w, i32_w]
                 rfl
                refine tA_ 14 40 ?_ (b_ 40 32767) (take_ofW HT_.out HW_.out (by kernel_rfl)) rfl rfl (fun _ _ _ h => h) (by rfl) ?_ hHeld ?_ ?_ ?_
                rotate_left
                ·
                 rintro w' ⟨s0, s1, s2, s3, s4, s5, s6, s7, s8, s9, s10, s11, s12, s13, s14, s15⟩
                 go_simp
                 with_reducible rfl
                rotate_left
                ·
                 simp only [Act.put, sa_, s0_, s1_, i64_w, i32_w]
                 rfl
                refine pA_ 15 41 ?_ (b_ 40 65535) (any_of HT_.out (by kernel_rfl)) rfl rfl (fun _ _ _ h => h) (by rfl) ?_ ?_ ?_ ?_
                rotate_left
                ·
                 intro w'
                 go_simp
                 with_reducible rfl
                rotate_left
                ·
                 simp only [Act.put, sa_, s0_, s1_, i64_w, i32_w]
                 rfl
                refine pA_ 16 42 ?_ (b_ 40 131071) (any_of HT_.out (by kernel_rfl)) rfl rfl (fun _ _ _ h => h) (by rfl) ?_ ?_ ?_ ?_
                rotate_left
                ·
                 intro w'
                 go_simp
                 with_reducible rfl
                rotate_left
                ·
                 simp only [Act.put, sa_, s0_, s1_, i64_w, i32_w]
                 rfl
                refine pA_ 17 43 ?_ (b_ 40 262143) (any_of HT_.out (by kernel_rfl)) rfl rfl (fun _ _ _ h => h) (by rfl) ?_ ?_ ?_ ?_
                rotate_left
                ·
                 intro w'
                 go_simp
                 with_reducible rfl
                rotate_left
                ·
                 simp only [Act.put, sa_, s0_, s1_, i64_w, i32_w]
                 rfl
                refine pA_ 19 45 ?_ (b_ 40 786431) (any_of HT_.out (by kernel_rfl)) rfl rfl (fun _ _ _ h => h) (by rfl) ?_ ?_ ?_ ?_
                rotate_left
                ·
                 intro w'
                 go_simp
                 with_reducible rfl
                rotate_left
                ·
                 simp only [Act.put, sa_, s0_, s1_, i64_w, i32_w]
                 rfl
                refine pA_ 20 46 ?_ (b_ 40 1835007) (any_of HT_.out (by kernel_rfl)) rfl rfl (fun _ _ _ h => h) (by rfl) ?_ ?_ ?_ ?_
                rotate_left
                ·
                 intro w'
                 go_simp
                 with_reducible rfl
                rotate_left
                ·
                 simp only [Act.put, sa_, s0_, s1_, i64_w, i32_w]
                 rfl
                refine pA_ 21 47 ?_ (b_ 40 3932159) (any_of HT_.out (by kernel_rfl)) rfl rfl (fun _ _ _ h => h) (by rfl) ?_ ?_ ?_ ?_
                rotate_left
                ·
                 intro w'
                 go_simp
                 with_reducible rfl
                rotate_left
                ·
                 simp only [Act.put, sa_, s0_, s1_, i64_w, i32_w]
                 rfl
                refine pA_ 22 48 ?_ (b_ 40 8126463) (any_of HT_.out (by kernel_rfl)) rfl rfl (fun _ _ _ h => h) (by rfl) ?_ ?_ ?_ ?_
                rotate_left
                ·
                 intro w'
                 go_simp
                 with_reducible rfl
                rotate_left
                ·
                 simp only [Act.put, sa_, s0_, s1_, i64_w, i32_w]
                 rfl
                refine pA_ 23 49 ?_ (b_ 40 16515071) (any_of HT_.out (by kernel_rfl)) rfl rfl (fun _ _ _ h => h) (by rfl) ?_ ?_ ?_ ?_
                rotate_left
                ·
                 intro w'
                 go_simp
                 with_reducible rfl
                rotate_left
                ·
                 simp only [Act.put, sa_, s0_, s1_, i64_w, i32_w]
                 rfl
                refine tA_ 18 44 ?_ (b_ 40 16777215) (take_ofW HT_.out HW_.out (by kernel_rfl)) rfl rfl (fun _ _ _ h => h) (by rfl) ?_ hHeld ?_ ?_ ?_
                rotate_left
                ·
                 rintro w' ⟨s0, s1, s2, s3, s4, s5, s6, s7, s8, s9, s10, s11, s12, s13, s14, s15⟩
                 go_simp
                 with_reducible rfl
                rotate_left
                ·
                 simp only [Act.put, sa_, s0_, s1_, i64_w, i32_w]
                 rfl
                refine tA_ 24 50 ?_ (b_ 40 33554431) (take_ofW HT_.out HW_.out (by kernel_rfl)) rfl rfl (fun _ _ _ h => h) (by rfl) ?_ hHeld ?_ ?_ ?_
                rotate_left
                ·
                 rintro w' ⟨s0, s1, s2, s3, s4, s5, s6, s7, s8, s9, s10, s11, s12, s13, s14, s15⟩
                 go_simp
                 with_reducible rfl
                rotate_left
                ·
                 simp only [Act.put, sa_, s0_, s1_, i64_w, i32_w]
                 rfl
                refine pA_ 25 51 ?_ (b_ 40 67108863) (any_of HT_.out (by kernel_rfl)) rfl rfl (fun _ _ _ h => h) (by rfl) ?_ ?_ ?_ ?_
                rotate_left
                ·
                 intro w'
                 go_simp
                 with_reducible rfl
                rotate_left
                ·
                 simp only [Act.put, sa_, s0_, s1_, i64_w, i32_w]
                 rfl
                refine pA_ 26 52 ?_ (b_ 40 134217727) (any_of HT_.out (by kernel_rfl)) rfl rfl (fun _ _ _ h => h) (by rfl) ?_ ?_ ?_ ?_
                rotate_left
                ·
                 intro w'
                 go_simp
                 with_reducible rfl
                rotate_left
                ·
                 simp only [Act.put, sa_, s0_, s1_, i64_w, i32_w]
                 rfl
                refine pA_ 27 53 ?_ (b_ 40 268435455) (any_of HT_.out (by kernel_rfl)) rfl rfl (fun _ _ _ h => h) (by rfl) ?_ ?_ ?_ ?_
                rotate_left
                ·
                 intro w'
                 go_simp
                 with_reducible rfl
                rotate_left
                ·
                 simp only [Act.put, sa_, s0_, s1_, i64_w, i32_w]
                 rfl
                refine pA_ 29 55 ?_ (b_ 40 805306367) (any_of HT_.out (by kernel_rfl)) rfl rfl (fun _ _ _ h => h) (by rfl) ?_ ?_ ?_ ?_
                rotate_left
                ·
                 intro w'
                 go_simp
                 with_reducible rfl
                rotate_left
                ·
                 simp only [Act.put, sa_, s0_, s1_, i64_w, i32_w]
                 rfl
                refine pA_ 30 56 ?_ (b_ 40 1879048191) (any_of HT_.out (by kernel_rfl)) rfl rfl (fun _ _ _ h => h) (by rfl) ?_ ?_ ?_ ?_
                rotate_left
                ·
                 intro w'
                 go_simp
                 with_reducible rfl
                rotate_left
                ·
                 simp only [Act.put, sa_, s0_, s1_, i64_w, i32_w]
                 rfl
                refine pA_ 31 57 ?_ (b_ 40 4026531839) (any_of HT_.out (by kernel_rfl)) rfl rfl (fun _ _ _ h => h) (by rfl) ?_ ?_ ?_ ?_
                rotate_left
                ·
                 intro w'
                 go_simp
                 with_reducible rfl
                rotate_left
                ·
                 simp only [Act.put, sa_, s0_, s1_, i64_w, i32_w]
                 rfl
                refine pA_ 32 58 ?_ (b_ 40 8321499135) (any_of HT_.out (by kernel_rfl)) rfl rfl (fun _ _ _ h => h) (by rfl) ?_ ?_ ?_ ?_
                rotate_left
                ·
                 intro w'
                 go_simp
                 with_reducible rfl
                rotate_left
                ·
                 simp only [Act.put, sa_, s0_, s1_, i64_w, i32_w]
                 rfl
                refine pA_ 33 59 ?_ (b_ 40 16911433727) (any_of HT_.out (by kernel_rfl)) rfl rfl (fun _ _ _ h => h) (by rfl) ?_ ?_ ?_ ?_
                rotate_left
                ·
                 intro w'
                 go_simp
                 with_reducible rfl
                rotate_left
                ·
                 simp only [Act.put, sa_, s0_, s1_, i64_w, i32_w]
                 rfl
                refine tA_ 28 54 ?_ (b_ 40 17179869183) (take_ofW HT_.out HW_.out (by kernel_rfl)) rfl rfl (fun _ _ _ h => h) (by rfl) ?_ hHeld ?_ ?_ ?_
                rotate_left
                ·
                 rintro w' ⟨s0, s1, s2, s3, s4, s5, s6, s7, s8, s9, s10, s11, s12, s13, s14, s15⟩
                 go_simp
                 with_reducible rfl
                rotate_left
                ·
                 simp only [Act.put, sa_, s0_, s1_, i64_w, i32_w]
                 rfl
                refine tA_ 34 60 ?_ (b_ 40 34359738367) (take_ofW HT_.out HW_.out (by kernel_rfl)) rfl rfl (fun _ _ _ h => h) (by rfl) ?_ hHeld ?_ ?_ ?_
                rotate_left
                ·
                 rintro w' ⟨s0, s1, s2, s3, s4, s5, s6, s7, s8, s9, s10, s11, s12, s13, s14, s15⟩
                 go_simp
                 with_reducible rfl
                rotate_left
                ·
                 simp only [Act.put, sa_, s0_, s1_, i64_w, i32_w]
                 rfl
                refine pA_ 35 61 ?_ (b_ 40 68719476735) (any_of HT_.out (by kernel_rfl)) rfl rfl (fun _ _ _ h => h) (by rfl) ?_ ?_ ?_ ?_
                rotate_left
                ·
                 intro w'
                 go_simp
                 with_reducible rfl
                rotate_left
                ·
                 simp only [Act.put, sa_, s0_, s1_, i64_w, i32_w]
                 rfl
                refine pA_ 36 62 ?_ (b_ 40 137438953471) (any_of HT_.out (by kernel_rfl)) rfl rfl (fun _ _ _ h => h) (by rfl) ?_ ?_ ?_ ?_
                rotate_left
                ·
                 intro w'
                 go_simp
                 with_reducible rfl
                rotate_left
                ·
                 simp only [Act.put, sa_, s0_, s1_, i64_w, i32_w]
                 rfl
                refine pA_ 37 63 ?_ (b_ 40 274877906943) (any_of HT_.out (by kernel_rfl)) rfl rfl (fun _ _ _ h => h) (by rfl) ?_ ?_ ?_ ?_
                rotate_left
                ·
                 intro w'
                 go_simp
                 with_reducible rfl
                rotate_left
                ·
                 simp only [Act.put, sa_, s0_, s1_, i64_w, i32_w]
                 rfl
                refine pA_ 38 64 ?_ (b_ 40 549755813887) (any_of HT_.out (by kernel_rfl)) rfl rfl (fun _ _ _ h => h) (by rfl) ?_ ?_ ?_ ?_
                rotate_left
                ·
                 intro w'
                 go_simp
                 with_reducible rfl
                rotate_left
                ·
                 simp only [Act.put, sa_, s0_, s1_, i64_w, i32_w]
                 rfl
                refine pA_ 39 65 ?_ (b_ 40 1099511627775) (any_of HT_.out (by kernel_rfl)) rfl rfl (fun _ _ _ h => h) (by rfl) ?_ ?_ ?_ ?_
                rotate_left
                ·
                 intro w'
                 go_simp
                 with_reducible rfl
                rotate_left
                ·
                 simp only [Act.put, sa_, s0_, s1_, i64_w, i32_w]
                 rfl
                refine done_ (done_of HT_.out (by kernel_rfl)) ?_
                try go_wp2
                go_roundg k2
                case measure => have := HJ1.out; have := HK2.out; omega
                case rel => exact ⟨(wrap64 (x21_2 + 1)), (by first | rfl | (simp; done) | (simp [*]; done)), H', ⟨by have := HJ1.out; have := HK2.out; omega⟩, ⟨by repeat (first | (with_reducible first | exact HB.out | apply below_alloc | apply pw_below_drewN | apply below_drew1 | refine below_set ?_ GE118.out) | exact HB.out)⟩⟩
              ·
               rw [if_neg c20] at H
               have c20b0 : (((rd_T39 l0 x21_2).f0).toList == ((rd_T39 l0 (ji11)).f0).toList) = false := beq_eq_false_iff_ne.mpr c20
               have c20b1 : (((rd_T39 l0 x21_2).f0).toList != ((rd_T39 l0 (ji11)).f0).toList) = true := bne_iff_ne.mpr c20
               have H' := Aside0.mk H
               clear H
               have p117 : 0 ≤ (x21_2 : Int) := of_decide_eq_true (by first | (with_reducible assumption) | assumption)
               have q117 : x21_2 < (l0.length : Int) := of_decide_eq_true (by first | (with_reducible assumption) | assumption)
               obtain ⟨ad117, e117, hx117_0, hx117_1, hx117_2, hx117_3⟩ := at_T39 HR0.out x21_2 p117 q117
               cases e117
               replace hx117_0 := cl_ HB.out hx117_0
               replace hx117_1 := cl_ HB.out hx117_1
               replace hx117_2 := cl_ HB.out hx117_2
               replace hx117_3 := cl_ HB.out hx117_3
               replace p117 := eq_true p117
               replace q117 := eq_true q117
               try go_wp2_with (first | ((with_reducible refine gate_dst (N := 5) rfl ?_); (try (refine gate_guard (by rfl) ?_; dsimp only)); refine box_event ?hg (N := 5) ?hd (cs := #[.string (⟨#[]⟩ : ByteArray), .int .i64 0, .bool false, .string (⟨#[]⟩ : ByteArray)]) (t := 39) ?hr ?_; (case hd => rfl); (case hg => rfl); (case hr => first | (go_simp; done) | (go_simp; rfl)); intro gb118 hg w32 hbox hb; have n0_ := Aside0.mk (below_step (by repeat (first | (with_reducible first | exact HB.out | apply below_alloc | apply pw_below_drewN | apply below_drew1) | exact HB.out)) hb); have n1_ := Aside0.mk (hbox); have n2_ := Aside0.mk ((by rw [hg]; exact (below_size (by repeat (first | (with_reducible first | exact HB.out | apply below_alloc | apply pw_below_drewN | apply below_drew1) | exact HB.out))) : w.heap.size ≤ gb118)); have n3_ := Aside0.mk ((by rw [hg]; exact (below_size (by repeat (first | (with_reducible first | exact HB.out | apply below_alloc | apply pw_below_drewN | apply below_drew1) | exact HB.out))) : w.heap.size ≤ gb118)); clear HB; have HB := n0_; have BK118 := n1_; have GW118 := n2_; have GE118 := n3_; clear n0_ n1_ n2_ n3_; clear hb hbox hg; have hcz33_0 : w32.cell? ⟨gb118, 0, none⟩ = some (.string (⟨#[]⟩ : ByteArray)) := (blk_cell BK118.out 0).trans rfl; have hcz33_1 : w32.cell? ⟨gb118, 1, none⟩ = some (.int .i64 0) := (blk_cell BK118.out 1).trans rfl; have hcz33_2 : w32.cell? ⟨gb118, 2, none⟩ = some (.bool false) := (blk_cell BK118.out 2).trans rfl; have hcz33_3 : w32.cell? ⟨gb118, 3, none⟩ = some (.string (⟨#[]⟩ : ByteArray)) := (blk_cell BK118.out 3).trans rfl; have hfz33_0 := blk_frozen BK118.out 0; have hfz33_1 := blk_frozen BK118.out 1; have hfz33_2 := blk_frozen BK118.out 2; have hfz33_3 := blk_frozen BK118.out 3))
               have n0_ : Aside0 (((((w32.setCell ⟨gb118, 0, none⟩ (.string ((rd_T39 l0 x21_2).f0))).setCell ⟨gb118, 1, none⟩ (.int .i64 ((rd_T39 l0 x21_2).f1))).setCell ⟨gb118, 2, none⟩ (.bool ((rd_T39 l0 x21_2).f2))).setCell ⟨gb118, 3, none⟩ (.string ((rd_T39 l0 x21_2).f3))).heap[gb118]? = some (.cells #[.string ((rd_T39 l0 x21_2).f0), .int .i64 ((rd_T39 l0 x21_2).f1), .bool ((rd_T39 l0 x21_2).f2), .string ((rd_T39 l0 x21_2).f3)] 39 (0, 0))) := ⟨by (with_reducible repeat (first | refine blk_drewN ?_ _ | refine blk_drew ?_ | refine blk_alloc ?_ _)); refine blk_put (cs := #[.string ((rd_T39 l0 x21_2).f0), .int .i64 ((rd_T39 l0 x21_2).f1), .bool ((rd_T39 l0 x21_2).f2), .string (⟨#[]⟩ : ByteArray)]) ?_ 3 _ rfl; (with_reducible repeat (first | refine blk_drewN ?_ _ | refine blk_drew ?_ | refine blk_alloc ?_ _)); refine blk_put (cs := #[.string ((rd_T39 l0 x21_2).f0), .int .i64 ((rd_T39 l0 x21_2).f1), .bool false, .string (⟨#[]⟩ : ByteArray)]) ?_ 2 _ rfl; (with_reducible repeat (first | refine blk_drewN ?_ _ | refine blk_drew ?_ | refine blk_alloc ?_ _)); refine blk_put (cs := #[.string ((rd_T39 l0 x21_2).f0), .int .i64 0, .bool false, .string (⟨#[]⟩ : ByteArray)]) ?_ 1 _ rfl; (with_reducible repeat (first | refine blk_drewN ?_ _ | refine blk_drew ?_ | refine blk_alloc ?_ _)); refine blk_put (cs := #[.string (⟨#[]⟩ : ByteArray), .int .i64 0, .bool false, .string (⟨#[]⟩ : ByteArray)]) ?_ 0 _ rfl; (with_reducible repeat (first | refine blk_drewN ?_ _ | refine blk_drew ?_ | refine blk_alloc ?_ _)); exact BK118.out⟩
               have n1_ : Aside0 (Below w.heap.size w ((((w32.setCell ⟨gb118, 0, none⟩ (.string ((rd_T39 l0 x21_2).f0))).setCell ⟨gb118, 1, none⟩ (.int .i64 ((rd_T39 l0 x21_2).f1))).setCell ⟨gb118, 2, none⟩ (.bool ((rd_T39 l0 x21_2).f2))).setCell ⟨gb118, 3, none⟩ (.string ((rd_T39 l0 x21_2).f3)))) := ⟨by repeat (first | (with_reducible first | exact HB.out | apply below_alloc | apply pw_below_drewN | apply below_drew1 | refine below_set ?_ GE118.out) | exact HB.out)⟩
               (try clear BK118)
               (try clear HB)
               generalize ((((w32.setCell ⟨gb118, 0, none⟩ (.string ((rd_T39 l0 x21_2).f0))).setCell ⟨gb118, 1, none⟩ (.int .i64 ((rd_T39 l0 x21_2).f1))).setCell ⟨gb118, 2, none⟩ (.bool ((rd_T39 l0 x21_2).f2))).setCell ⟨gb118, 3, none⟩ (.string ((rd_T39 l0 x21_2).f3))) = w34 at n0_ n1_ ⊢
               have BK118 := n0_
               have HB := n1_
               clear n0_ n1_
               obtain ⟨BK118, HB⟩ := And.intro (Aside0.mk (blk_drew BK118.out)) (Aside0.mk (below_drew1 HB.out))
               have p120 : 0 ≤ ((ji11) : Int) := of_decide_eq_true (by first | (with_reducible assumption) | assumption)
               have q120 : (ji11) < (l0.length : Int) := of_decide_eq_true (by first | (with_reducible assumption) | assumption)
               obtain ⟨ad120, e120, hx120_0, hx120_1, hx120_2, hx120_3⟩ := at_T39 HR0.out (ji11) p120 q120
               have hw120_3 := hx120_3
               have hw120_2 := hx120_2
               have hw120_1 := hx120_1
               have hw120_0 := hx120_0
               obtain rfl : ad117 = ad120 := (by injection e120)
               replace hx120_0 := cl_ HB.out hx120_0
               replace hx120_1 := cl_ HB.out hx120_1
               replace hx120_2 := cl_ HB.out hx120_2
               replace hx120_3 := cl_ HB.out hx120_3
               replace p120 := eq_true p120
               replace q120 := eq_true q120
               have p121 : 0 ≤ ((ji11) : Int) := of_decide_eq_true (by first | (with_reducible assumption) | assumption)
               have q121 : (ji11) < (l0.length : Int) := of_decide_eq_true (by first | (with_reducible assumption) | assumption)
               obtain ⟨ad121, e121, hx121_0, hx121_1, hx121_2, hx121_3⟩ := at_T39 HR0.out (ji11) p121 q121
               have hw121_3 := hx121_3
               have hw121_2 := hx121_2
               have hw121_1 := hx121_1
               have hw121_0 := hx121_0
               obtain rfl : ad117 = ad121 := (by injection e121)
               replace hx121_0 := cl_ HB.out hx121_0
               replace hx121_1 := cl_ HB.out hx121_1
               replace hx121_2 := cl_ HB.out hx121_2
               replace hx121_3 := cl_ HB.out hx121_3
               replace p121 := eq_true p121
               replace q121 := eq_true q121
               refine start_ (n := 40) (S := fun w' => w'.cell? ⟨gb118, 0, none⟩ = some (.string ((rd_T39 l0 x21_2).f0)) ∧ w'.cell? ⟨gb118, 1, none⟩ = some (.int .i64 ((rd_T39 l0 x21_2).f1)) ∧ w'.cell? ⟨gb118, 2, none⟩ = some (.bool ((rd_T39 l0 x21_2).f2)) ∧ w'.cell? ⟨gb118, 3, none⟩ = some (.string ((rd_T39 l0 x21_2).f3)) ∧ w'.cell? (ad117.add (((ji11)).toNat * 4)) = some (.string ((rd_T39 l0 (ji11)).f0)) ∧ w'.cell? ⟨(ad117.add (((ji11)).toNat * 4)).block, (ad117.add (((ji11)).toNat * 4)).off + 1, none⟩ = some (.int .i64 ((rd_T39 l0 (ji11)).f1)) ∧ w'.cell? ⟨(ad117.add (((ji11)).toNat * 4)).block, (ad117.add (((ji11)).toNat * 4)).off + 2, none⟩ = some (.bool ((rd_T39 l0 (ji11)).f2)) ∧ w'.cell? ⟨(ad117.add (((ji11)).toNat * 4)).block, (ad117.add (((ji11)).toNat * 4)).off + 3, none⟩ = some (.string ((rd_T39 l0 (ji11)).f3)) ∧ w'.cell? (ad117.add (((ji11)).toNat * 4)) = some (.string ((rd_T39 l0 (ji11)).f0)) ∧ w'.cell? ⟨(ad117.add (((ji11)).toNat * 4)).block, (ad117.add (((ji11)).toNat * 4)).off + 1, none⟩ = some (.int .i64 ((rd_T39 l0 (ji11)).f1)) ∧ w'.cell? ⟨(ad117.add (((ji11)).toNat * 4)).block, (ad117.add (((ji11)).toNat * 4)).off + 2, none⟩ = some (.bool ((rd_T39 l0 (ji11)).f2)) ∧ w'.cell? ⟨(ad117.add (((ji11)).toNat * 4)).block, (ad117.add (((ji11)).toNat * 4)).off + 3, none⟩ = some (.string ((rd_T39 l0 (ji11)).f3))) (ds := []) (b_ 40 0) (by kernel_rfl) rfl rfl ⟨(blk_cell BK118.out 0).trans rfl, (blk_cell BK118.out 1).trans rfl, (blk_cell BK118.out 2).trans rfl, (blk_cell BK118.out 3).trans rfl, (cl_ HB.out hw120_0), (cl_ HB.out hw120_1), (cl_ HB.out hw120_2), (cl_ HB.out hw120_3), (cl_ HB.out hw121_0), (cl_ HB.out hw121_1), (cl_ HB.out hw121_2), (cl_ HB.out hw121_3)⟩ (fun hHeld => ?_); refine with_tabW block_Write.tab6 block_Write.bits6 (fun HT_ HW_ => ?_)
               generalize w34.drew = w35 at BK118 HB hx120_0 hx120_1 hx120_2 hx120_3 hx121_0 hx121_1 hx121_2 hx121_3 hHeld ⊢
               refine tA_ 0 26 ?_ (b_ 40 1) (take_ofW HT_.out HW_.out (by kernel_rfl)) rfl rfl (fun _ _ _ h => h) (by rfl) ?_ hHeld ?_ ?_ ?_
               rotate_left
               ·
                rintro w' ⟨s0, s1, s2, s3, s4, s5, s6, s7, s8, s9, s10, s11⟩
                go_simp
                with_reducible rfl
               rotate_left
               ·
                simp only [Act.put, sa_, s0_, s1_, i64_w, i32_w]
                rfl
               refine one_ (i := 1) (N := some 27) (b_ 40 3) rfl rfl (one_of HT_.out (by kernel_rfl)) (by decide) (fun K hK => ?_)
               refine goes_ Try.func20 (by kernel_rfl) rfl #[.agg #[.string ((rd_T39 l0 x21_2).f0), .int .i64 ((rd_T39 l0 x21_2).f1), .bool ((rd_T39 l0 x21_2).f2), .string ((rd_T39 l0 x21_2).f3)]] (by rfl) rfl rfl (by (try simp only [List.map_toArray, List.map_cons, List.map_nil]); first | done | rfl | (simp only [List.length_drop, List.length_take]; rfl)) ?_
               with_reducible refine (block_may.calls ((rd_T39 l0 x21_2).f0) ((rd_T39 l0 x21_2).f1) ((rd_T39 l0 x21_2).f2) ((rd_T39 l0 x21_2).f3) true _ A8.out).mono ?_
               rintro e w36 ⟨rfl, hb⟩
               refine ⟨_, rfl, ?_⟩
               obtain ⟨BK118, HB⟩ := And.intro (Aside0.mk (blk_below (g := gb118) (o := .cells #[.string ((rd_T39 l0 x21_2).f0), .int .i64 ((rd_T39 l0 x21_2).f1), .bool ((rd_T39 l0 x21_2).f2), .string ((rd_T39 l0 x21_2).f3)] 39 (0, 0)) (by (with_reducible repeat (first | refine blk_drewN ?_ _ | refine blk_drew ?_ | refine blk_alloc ?_ _)); exact BK118.out) hb)) (Aside0.mk (below_step (by repeat (first | (with_reducible first | exact HB.out | apply below_alloc | apply pw_below_drewN | apply below_drew1 | refine below_set ?_ GE118.out) | exact HB.out)) hb))
               (try clear hb)
               (try clear hb2)
               (try clear hk)
               (try clear hi)
               refine hK.out _ _ ⟨(blk_cell BK118.out 0).trans rfl, (blk_cell BK118.out 1).trans rfl, (blk_cell BK118.out 2).trans rfl, (blk_cell BK118.out 3).trans rfl, (cl_ HB.out hw120_0), (cl_ HB.out hw120_1), (cl_ HB.out hw120_2), (cl_ HB.out hw120_3), (cl_ HB.out hw121_0), (cl_ HB.out hw121_1), (cl_ HB.out hw121_2), (cl_ HB.out hw121_3)⟩ (fun hHeld => ?_)
               clear hK K
               refine norm_ (a' := ?_) ?_ ?_
               rotate_left
               ·
                show Act.put _ (some 27) _ = _
                simp only [Act.put, sa_, s0_, s1_, i64_w, i32_w]
                rfl
               refine pA_ 2 28 ?_ (b_ 40 7) (any_of HT_.out (by kernel_rfl)) rfl rfl (fun _ _ _ h => h) (by rfl) ?_ ?_ ?_ ?_
               rotate_left
               ·
                intro w'
                go_simp
                with_reducible rfl
               rotate_left
               ·
                simp only [Act.put, sa_, s0_, s1_, i64_w, i32_w]
                rfl
               refine pA_ 3 29 ?_ (b_ 40 15) (any_of HT_.out (by kernel_rfl)) rfl rfl (fun _ _ _ h => h) (by rfl) ?_ ?_ ?_ ?_
               rotate_left
               ·
                intro w'
                go_simp
                with_reducible rfl
               rotate_left
               ·
                simp only [Act.put, sa_, s0_, s1_, i64_w, i32_w]
                rfl
               refine pA_ 4 30 ?_ (b_ 40 31) (any_of HT_.out (by kernel_rfl)) rfl rfl (fun _ _ _ h => h) (by rfl) ?_ ?_ ?_ ?_
               rotate_left
               ·
                intro w'
                go_simp
                with_reducible rfl
               rotate_left
               ·
                simp only [Act.put, sa_, s0_, s1_, i64_w, i32_w]
                rfl
               refine pA_ 5 31 ?_ (b_ 40 63) (any_of HT_.out (by kernel_rfl)) rfl rfl (fun _ _ _ h => h) (by rfl) ?_ ?_ ?_ ?_
               rotate_left
               ·
                intro w'
                go_simp
                with_reducible rfl
               rotate_left
               ·
                simp only [Act.put, sa_, s0_, s1_, i64_w, i32_w]
                rfl
               refine pA_ 6 32 ?_ (b_ 40 127) (any_of HT_.out (by kernel_rfl)) rfl rfl (fun _ _ _ h => h) (by rfl) ?_ ?_ ?_ ?_
               rotate_left
               ·
                intro w'
                go_simp
                with_reducible rfl
               rotate_left
               ·
                simp only [Act.put, sa_, s0_, s1_, i64_w, i32_w]
                rfl
               refine pA_ 7 33 ?_ (b_ 40 255) (any_of HT_.out (by kernel_rfl)) rfl rfl (fun _ _ _ h => h) (by rfl) ?_ ?_ ?_ ?_
               rotate_left
               ·
                intro w'
                go_simp
                with_reducible rfl
               rotate_left
               ·
                simp only [Act.put, sa_, s0_, s1_, i64_w, i32_w]
                rfl
               refine pA_ 9 35 ?_ (b_ 40 767) (any_of HT_.out (by kernel_rfl)) rfl rfl (fun _ _ _ h => h) (by rfl) ?_ ?_ ?_ ?_
               rotate_left
               ·
                intro w'
                go_simp
                with_reducible rfl
               rotate_left
               ·
                simp only [Act.put, sa_, s0_, s1_, i64_w, i32_w]
                rfl
               refine pA_ 10 36 ?_ (b_ 40 1791) (any_of HT_.out (by kernel_rfl)) rfl rfl (fun _ _ _ h => h) (by rfl) ?_ ?_ ?_ ?_
               rotate_left
               ·
                intro w'
                go_simp
                with_reducible rfl
               rotate_left
               ·
                simp only [Act.put, sa_, s0_, s1_, i64_w, i32_w]
                rfl
               refine pA_ 11 37 ?_ (b_ 40 3839) (any_of HT_.out (by kernel_rfl)) rfl rfl (fun _ _ _ h => h) (by rfl) ?_ ?_ ?_ ?_
               rotate_left
               ·
                intro w'
                go_simp
                with_reducible rfl
               rotate_left
               ·
                simp only [Act.put, sa_, s0_, s1_, i64_w, i32_w]
                rfl
               refine pA_ 12 38 ?_ (b_ 40 7935) (any_of HT_.out (by kernel_rfl)) rfl rfl (fun _ _ _ h => h) (by rfl) ?_ ?_ ?_ ?_
               rotate_left
               ·
                intro w'
                go_simp
                with_reducible rfl
               rotate_left
               ·
                simp only [Act.put, sa_, s0_, s1_, i64_w, i32_w]
                rfl
               refine pA_ 13 39 ?_ (b_ 40 16127) (any_of HT_.out (by kernel_rfl)) rfl rfl (fun _ _ _ h => h) (by rfl) ?_ ?_ ?_ ?_
               rotate_left
               ·
                intro w'
                go_simp
                with_reducible rfl
               rotate_left
               ·
                simp only [Act.put, sa_, s0_, s1_, i64_w, i32_w]
                rfl
               refine tA_ 8 34 ?_ (b_ 40 16383) (take_ofW HT_.out HW_.out (by kernel_rfl)) rfl rfl (fun _ _ _ h => h) (by rfl) ?_ hHeld ?_ ?_ ?_
               rotate_left
               ·
                rintro w' ⟨s0, s1, s2, s3, s4, s5, s6, s7, s8, s9, s10, s11⟩
                go_simp
                with_reducible rfl
               rotate_left
               ·
                simp only [Act.put, sa_, s0_, s1_, i64_w, i32_w]
                rfl
               refine tA_ 14 40 ?_ (b_ 40 32767) (take_ofW HT_.out HW_.out (by kernel_rfl)) rfl rfl (fun _ _ _ h => h) (by rfl) ?_ hHeld ?_ ?_ ?_
               rotate_left
               ·
                rintro w' ⟨s0, s1, s2, s3, s4, s5, s6, s7, s8, s9, s10, s11⟩
                go_simp
                with_reducible rfl
               rotate_left
               ·
                simp only [Act.put, sa_, s0_, s1_, i64_w, i32_w]
                rfl
               refine pA_ 15 41 ?_ (b_ 40 65535) (any_of HT_.out (by kernel_rfl)) rfl rfl (fun _ _ _ h => h) (by rfl) ?_ ?_ ?_ ?_
               rotate_left
               ·
                intro w'
                go_simp
                with_reducible rfl
               rotate_left
               ·
                simp only [Act.put, sa_, s0_, s1_, i64_w, i32_w]
                rfl
               refine pA_ 16 42 ?_ (b_ 40 131071) (any_of HT_.out (by kernel_rfl)) rfl rfl (fun _ _ _ h => h) (by rfl) ?_ ?_ ?_ ?_
               rotate_left
               ·
                intro w'
                go_simp
                with_reducible rfl
               rotate_left
               ·
                simp only [Act.put, sa_, s0_, s1_, i64_w, i32_w]
                rfl
               refine pA_ 17 43 ?_ (b_ 40 262143) (any_of HT_.out (by kernel_rfl)) rfl rfl (fun _ _ _ h => h) (by rfl) ?_ ?_ ?_ ?_
               rotate_left
               ·
                intro w'
                go_simp
                with_reducible rfl
               rotate_left
               ·
                simp only [Act.put, sa_, s0_, s1_, i64_w, i32_w]
                rfl
               refine pA_ 19 45 ?_ (b_ 40 786431) (any_of HT_.out (by kernel_rfl)) rfl rfl (fun _ _ _ h => h) (by rfl) ?_ ?_ ?_ ?_
               rotate_left
               ·
                intro w'
                go_simp
                with_reducible rfl
               rotate_left
               ·
                simp only [Act.put, sa_, s0_, s1_, i64_w, i32_w]
                rfl
               refine pA_ 20 46 ?_ (b_ 40 1835007) (any_of HT_.out (by kernel_rfl)) rfl rfl (fun _ _ _ h => h) (by rfl) ?_ ?_ ?_ ?_
               rotate_left
               ·
                intro w'
                go_simp
                with_reducible rfl
               rotate_left
               ·
                simp only [Act.put, sa_, s0_, s1_, i64_w, i32_w]
                rfl
               refine pA_ 21 47 ?_ (b_ 40 3932159) (any_of HT_.out (by kernel_rfl)) rfl rfl (fun _ _ _ h => h) (by rfl) ?_ ?_ ?_ ?_
               rotate_left
               ·
                intro w'
                go_simp
                with_reducible rfl
               rotate_left
               ·
                simp only [Act.put, sa_, s0_, s1_, i64_w, i32_w]
                rfl
               refine pA_ 22 48 ?_ (b_ 40 8126463) (any_of HT_.out (by kernel_rfl)) rfl rfl (fun _ _ _ h => h) (by rfl) ?_ ?_ ?_ ?_
               rotate_left
               ·
                intro w'
                go_simp
                with_reducible rfl
               rotate_left
               ·
                simp only [Act.put, sa_, s0_, s1_, i64_w, i32_w]
                rfl
               refine pA_ 23 49 ?_ (b_ 40 16515071) (any_of HT_.out (by kernel_rfl)) rfl rfl (fun _ _ _ h => h) (by rfl) ?_ ?_ ?_ ?_
               rotate_left
               ·
                intro w'
                go_simp
                with_reducible rfl
               rotate_left
               ·
                simp only [Act.put, sa_, s0_, s1_, i64_w, i32_w]
                rfl
               refine tA_ 18 44 ?_ (b_ 40 16777215) (take_ofW HT_.out HW_.out (by kernel_rfl)) rfl rfl (fun _ _ _ h => h) (by rfl) ?_ hHeld ?_ ?_ ?_
               rotate_left
               ·
                rintro w' ⟨s0, s1, s2, s3, s4, s5, s6, s7, s8, s9, s10, s11⟩
                go_simp
                with_reducible rfl
               rotate_left
               ·
                simp only [Act.put, sa_, s0_, s1_, i64_w, i32_w]
                rfl
               refine tA_ 24 50 ?_ (b_ 40 33554431) (take_ofW HT_.out HW_.out (by kernel_rfl)) rfl rfl (fun _ _ _ h => h) (by rfl) ?_ hHeld ?_ ?_ ?_
               rotate_left
               ·
                rintro w' ⟨s0, s1, s2, s3, s4, s5, s6, s7, s8, s9, s10, s11⟩
                go_simp
                with_reducible rfl
               rotate_left
               ·
                simp only [Act.put, sa_, s0_, s1_, i64_w, i32_w]
                rfl
               refine pA_ 25 51 ?_ (b_ 40 67108863) (any_of HT_.out (by kernel_rfl)) rfl rfl (fun _ _ _ h => h) (by rfl) ?_ ?_ ?_ ?_
               rotate_left
               ·
                intro w'
                go_simp
                with_reducible rfl
               rotate_left
               ·
                simp only [Act.put, sa_, s0_, s1_, i64_w, i32_w]
                rfl
               refine pA_ 26 52 ?_ (b_ 40 134217727) (any_of HT_.out (by kernel_rfl)) rfl rfl (fun _ _ _ h => h) (by rfl) ?_ ?_ ?_ ?_
               rotate_left
               ·
                intro w'
                go_simp
                with_reducible rfl
               rotate_left
               ·
                simp only [Act.put, sa_, s0_, s1_, i64_w, i32_w]
                rfl
               refine pB_ 27 53 ?_ (b_ 40 268435455) (any_of HT_.out (by kernel_rfl)) rfl rfl (fun _ _ _ h => h) (by rfl) ?_ ?_
               rotate_left
               ·
                simp only [Act.put, sa_, s0_, s1_, i64_w, i32_w]
                rfl
               refine pB_ 28 54 ?_ (b_ 40 536870911) (any_of HT_.out (by kernel_rfl)) rfl rfl (fun _ _ _ h => h) (by rfl) ?_ ?_
               rotate_left
               ·
                simp only [Act.put, sa_, s0_, s1_, i64_w, i32_w]
                rfl
               refine pB_ 29 55 ?_ (b_ 40 1073741823) (any_of HT_.out (by kernel_rfl)) rfl rfl (fun _ _ _ h => h) (by rfl) ?_ ?_
               rotate_left
               ·
                simp only [Act.put, sa_, s0_, s1_, i64_w, i32_w]
                rfl
               refine pB_ 30 56 ?_ (b_ 40 2147483647) (any_of HT_.out (by kernel_rfl)) rfl rfl (fun _ _ _ h => h) (by rfl) ?_ ?_
               rotate_left
               ·
                simp only [Act.put, sa_, s0_, s1_, i64_w, i32_w]
                rfl
               refine pB_ 31 57 ?_ (b_ 40 4294967295) (any_of HT_.out (by kernel_rfl)) rfl rfl (fun _ _ _ h => h) (by rfl) ?_ ?_
               rotate_left
               ·
                simp only [Act.put, sa_, s0_, s1_, i64_w, i32_w]
                rfl
               refine pB_ 32 58 ?_ (b_ 40 8589934591) (any_of HT_.out (by kernel_rfl)) rfl rfl (fun _ _ _ h => h) (by rfl) ?_ ?_
               rotate_left
               ·
                simp only [Act.put, sa_, s0_, s1_, i64_w, i32_w]
                rfl
               refine pB_ 33 59 ?_ (b_ 40 17179869183) (any_of HT_.out (by kernel_rfl)) rfl rfl (fun _ _ _ h => h) (by rfl) ?_ ?_
               rotate_left
               ·
                simp only [Act.put, sa_, s0_, s1_, i64_w, i32_w]
                rfl
               refine pB_ 34 60 ?_ (b_ 40 34359738367) (any_of HT_.out (by kernel_rfl)) rfl rfl (fun _ _ _ h => h) (by rfl) ?_ ?_
               rotate_left
               ·
                simp only [Act.put, sa_, s0_, s1_, i64_w, i32_w]
                rfl
               refine pB_ 35 61 ?_ (b_ 40 68719476735) (any_of HT_.out (by kernel_rfl)) rfl rfl (fun _ _ _ h => h) (by rfl) ?_ ?_
               rotate_left
               ·
                simp only [Act.put, sa_, s0_, s1_, i64_w, i32_w]
                rfl
               refine pA_ 36 62 ?_ (b_ 40 137438953471) (any_of HT_.out (by kernel_rfl)) rfl rfl (fun _ _ _ h => h) (by rfl) ?_ ?_ ?_ ?_
               rotate_left
               ·
                intro w'
                go_simp
                with_reducible rfl
               rotate_left
               ·
                simp only [Act.put, sa_, s0_, s1_, i64_w, i32_w]
                rfl
               refine pA_ 37 63 ?_ (b_ 40 274877906943) (any_of HT_.out (by kernel_rfl)) rfl rfl (fun _ _ _ h => h) (by rfl) ?_ ?_ ?_ ?_
               rotate_left
               ·
                intro w'
                go_simp
                with_reducible rfl
               rotate_left
               ·
                simp only [Act.put, sa_, s0_, s1_, i64_w, i32_w]
                rfl
               refine pA_ 38 64 ?_ (b_ 40 549755813887) (any_of HT_.out (by kernel_rfl)) rfl rfl (fun _ _ _ h => h) (by rfl) ?_ ?_ ?_ ?_
               rotate_left
               ·
                intro w'
                go_simp
                with_reducible rfl
               rotate_left
               ·
                simp only [Act.put, sa_, s0_, s1_, i64_w, i32_w]
                rfl
               refine pA_ 39 65 ?_ (b_ 40 1099511627775) (any_of HT_.out (by kernel_rfl)) rfl rfl (fun _ _ _ h => h) (by rfl) ?_ ?_ ?_ ?_
               rotate_left
               ·
                intro w'
                go_simp
                with_reducible rfl
               rotate_left
               ·
                simp only [Act.put, sa_, s0_, s1_, i64_w, i32_w]
                rfl
               refine done_ (done_of HT_.out (by kernel_rfl)) ?_
               try go_wp2
               go_roundg k2
               case measure => have := HJ1.out; have := HK2.out; omega
               case rel => exact ⟨(wrap64 (x21_2 + 1)), (by first | rfl | (simp; done) | (simp [*]; done)), H', ⟨by have := HJ1.out; have := HK2.out; omega⟩, ⟨by repeat (first | (with_reducible first | exact HB.out | apply below_alloc | apply pw_below_drewN | apply below_drew1 | refine below_set ?_ GE118.out) | exact HB.out)⟩⟩
            ·
             rw [if_neg c13] at H
             exact absurd H (by simp)
           ·
            rw [if_neg c12] at H
            exact absurd H (by simp)
          ·
           rw [if_neg c10] at H
           have c10b0 : decide (0 < x21_2) = false := decide_eq_false c10
           clear c10
           have H' := Aside0.mk H
           clear H
           have p117 : 0 ≤ (x21_2 : Int) := of_decide_eq_true (by first | (with_reducible assumption) | assumption)
           have q117 : x21_2 < (l0.length : Int) := of_decide_eq_true (by first | (with_reducible assumption) | assumption)
           obtain ⟨ad117, e117, hx117_0, hx117_1, hx117_2, hx117_3⟩ := at_T39 HR0.out x21_2 p117 q117
           cases e117
           replace hx117_0 := cl_ HB.out hx117_0
           replace hx117_1 := cl_ HB.out hx117_1
           replace hx117_2 := cl_ HB.out hx117_2
           replace hx117_3 := cl_ HB.out hx117_3
           replace p117 := eq_true p117
           replace q117 := eq_true q117
           try go_wp2_with (first | ((with_reducible refine gate_dst (N := 5) rfl ?_); (try (refine gate_guard (by rfl) ?_; dsimp only)); refine box_event ?hg (N := 5) ?hd (cs := #[.string (⟨#[]⟩ : ByteArray), .int .i64 0, .bool false, .string (⟨#[]⟩ : ByteArray)]) (t := 39) ?hr ?_; (case hd => rfl); (case hg => rfl); (case hr => first | (go_simp; done) | (go_simp; rfl)); intro gb118 hg w37 hbox hb; have n0_ := Aside0.mk (below_step (by repeat (first | (with_reducible first | exact HB.out | apply below_alloc | apply pw_below_drewN | apply below_drew1) | exact HB.out)) hb); have n1_ := Aside0.mk (hbox); have n2_ := Aside0.mk ((by rw [hg]; exact (below_size (by repeat (first | (with_reducible first | exact HB.out | apply below_alloc | apply pw_below_drewN | apply below_drew1) | exact HB.out))) : w.heap.size ≤ gb118)); have n3_ := Aside0.mk ((by rw [hg]; exact (below_size (by repeat (first | (with_reducible first | exact HB.out | apply below_alloc | apply pw_below_drewN | apply below_drew1) | exact HB.out))) : w.heap.size ≤ gb118)); clear HB; have HB := n0_; have BK118 := n1_; have GW118 := n2_; have GE118 := n3_; clear n0_ n1_ n2_ n3_; clear hb hbox hg; have hcz38_0 : w37.cell? ⟨gb118, 0, none⟩ = some (.string (⟨#[]⟩ : ByteArray)) := (blk_cell BK118.out 0).trans rfl; have hcz38_1 : w37.cell? ⟨gb118, 1, none⟩ = some (.int .i64 0) := (blk_cell BK118.out 1).trans rfl; have hcz38_2 : w37.cell? ⟨gb118, 2, none⟩ = some (.bool false) := (blk_cell BK118.out 2).trans rfl; have hcz38_3 : w37.cell? ⟨gb118, 3, none⟩ = some (.string (⟨#[]⟩ : ByteArray)) := (blk_cell BK118.out 3).trans rfl; have hfz38_0 := blk_frozen BK118.out 0; have hfz38_1 := blk_frozen BK118.out 1; have hfz38_2 := blk_frozen BK118.out 2; have hfz38_3 := blk_frozen BK118.out 3))
           have n0_ : Aside0 (((((w37.setCell ⟨gb118, 0, none⟩ (.string ((rd_T39 l0 x21_2).f0))).setCell ⟨gb118, 1, none⟩ (.int .i64 ((rd_T39 l0 x21_2).f1))).setCell ⟨gb118, 2, none⟩ (.bool ((rd_T39 l0 x21_2).f2))).setCell ⟨gb118, 3, none⟩ (.string ((rd_T39 l0 x21_2).f3))).heap[gb118]? = some (.cells #[.string ((rd_T39 l0 x21_2).f0), .int .i64 ((rd_T39 l0 x21_2).f1), .bool ((rd_T39 l0 x21_2).f2), .string ((rd_T39 l0 x21_2).f3)] 39 (0, 0))) := ⟨by (with_reducible repeat (first | refine blk_drewN ?_ _ | refine blk_drew ?_ | refine blk_alloc ?_ _)); refine blk_put (cs := #[.string ((rd_T39 l0 x21_2).f0), .int .i64 ((rd_T39 l0 x21_2).f1), .bool ((rd_T39 l0 x21_2).f2), .string (⟨#[]⟩ : ByteArray)]) ?_ 3 _ rfl; (with_reducible repeat (first | refine blk_drewN ?_ _ | refine blk_drew ?_ | refine blk_alloc ?_ _)); refine blk_put (cs := #[.string ((rd_T39 l0 x21_2).f0), .int .i64 ((rd_T39 l0 x21_2).f1), .bool false, .string (⟨#[]⟩ : ByteArray)]) ?_ 2 _ rfl; (with_reducible repeat (first | refine blk_drewN ?_ _ | refine blk_drew ?_ | refine blk_alloc ?_ _)); refine blk_put (cs := #[.string ((rd_T39 l0 x21_2).f0), .int .i64 0, .bool false, .string (⟨#[]⟩ : ByteArray)]) ?_ 1 _ rfl; (with_reducible repeat (first | refine blk_drewN ?_ _ | refine blk_drew ?_ | refine blk_alloc ?_ _)); refine blk_put (cs := #[.string (⟨#[]⟩ : ByteArray), .int .i64 0, .bool false, .string (⟨#[]⟩ : ByteArray)]) ?_ 0 _ rfl; (with_reducible repeat (first | refine blk_drewN ?_ _ | refine blk_drew ?_ | refine blk_alloc ?_ _)); exact BK118.out⟩
           have n1_ : Aside0 (Below w.heap.size w ((((w37.setCell ⟨gb118, 0, none⟩ (.string ((rd_T39 l0 x21_2).f0))).setCell ⟨gb118, 1, none⟩ (.int .i64 ((rd_T39 l0 x21_2).f1))).setCell ⟨gb118, 2, none⟩ (.bool ((rd_T39 l0 x21_2).f2))).setCell ⟨gb118, 3, none⟩ (.string ((rd_T39 l0 x21_2).f3)))) := ⟨by repeat (first | (with_reducible first | exact HB.out | apply below_alloc | apply pw_below_drewN | apply below_drew1 | refine below_set ?_ GE118.out) | exact HB.out)⟩
           (try clear BK118)
           (try clear HB)
           generalize ((((w37.setCell ⟨gb118, 0, none⟩ (.string ((rd_T39 l0 x21_2).f0))).setCell ⟨gb118, 1, none⟩ (.int .i64 ((rd_T39 l0 x21_2).f1))).setCell ⟨gb118, 2, none⟩ (.bool ((rd_T39 l0 x21_2).f2))).setCell ⟨gb118, 3, none⟩ (.string ((rd_T39 l0 x21_2).f3))) = w39 at n0_ n1_ ⊢
           have BK118 := n0_
           have HB := n1_
           clear n0_ n1_
           obtain ⟨BK118, HB⟩ := And.intro (Aside0.mk (blk_drew BK118.out)) (Aside0.mk (below_drew1 HB.out))
           refine start_ (n := 40) (S := fun w' => w'.cell? ⟨gb118, 0, none⟩ = some (.string ((rd_T39 l0 x21_2).f0)) ∧ w'.cell? ⟨gb118, 1, none⟩ = some (.int .i64 ((rd_T39 l0 x21_2).f1)) ∧ w'.cell? ⟨gb118, 2, none⟩ = some (.bool ((rd_T39 l0 x21_2).f2)) ∧ w'.cell? ⟨gb118, 3, none⟩ = some (.string ((rd_T39 l0 x21_2).f3))) (ds := []) (b_ 40 0) (by kernel_rfl) rfl rfl ⟨(blk_cell BK118.out 0).trans rfl, (blk_cell BK118.out 1).trans rfl, (blk_cell BK118.out 2).trans rfl, (blk_cell BK118.out 3).trans rfl⟩ (fun hHeld => ?_); refine with_tabW block_Write.tab6 block_Write.bits6 (fun HT_ HW_ => ?_)
           generalize w39.drew = w40 at BK118 HB hHeld ⊢
           refine tA_ 0 26 ?_ (b_ 40 1) (take_ofW HT_.out HW_.out (by kernel_rfl)) rfl rfl (fun _ _ _ h => h) (by rfl) ?_ hHeld ?_ ?_ ?_
           rotate_left
           ·
            rintro w' ⟨s0, s1, s2, s3⟩
            go_simp
            with_reducible rfl
           rotate_left
           ·
            simp only [Act.put, sa_, s0_, s1_, i64_w, i32_w]
            rfl
           refine one_ (i := 1) (N := some 27) (b_ 40 3) rfl rfl (one_of HT_.out (by kernel_rfl)) (by decide) (fun K hK => ?_)
           refine goes_ Try.func20 (by kernel_rfl) rfl #[.agg #[.string ((rd_T39 l0 x21_2).f0), .int .i64 ((rd_T39 l0 x21_2).f1), .bool ((rd_T39 l0 x21_2).f2), .string ((rd_T39 l0 x21_2).f3)]] (by rfl) rfl rfl (by (try simp only [List.map_toArray, List.map_cons, List.map_nil]); first | done | rfl | (simp only [List.length_drop, List.length_take]; rfl)) ?_
           with_reducible refine (block_may.calls ((rd_T39 l0 x21_2).f0) ((rd_T39 l0 x21_2).f1) ((rd_T39 l0 x21_2).f2) ((rd_T39 l0 x21_2).f3) true _ A8.out).mono ?_
           rintro e w41 ⟨rfl, hb⟩
           refine ⟨_, rfl, ?_⟩
           obtain ⟨BK118, HB⟩ := And.intro (Aside0.mk (blk_below (g := gb118) (o := .cells #[.string ((rd_T39 l0 x21_2).f0), .int .i64 ((rd_T39 l0 x21_2).f1), .bool ((rd_T39 l0 x21_2).f2), .string ((rd_T39 l0 x21_2).f3)] 39 (0, 0)) (by (with_reducible repeat (first | refine blk_drewN ?_ _ | refine blk_drew ?_ | refine blk_alloc ?_ _)); exact BK118.out) hb)) (Aside0.mk (below_step (by repeat (first | (with_reducible first | exact HB.out | apply below_alloc | apply pw_below_drewN | apply below_drew1 | refine below_set ?_ GE118.out) | exact HB.out)) hb))
           (try clear hb)
           (try clear hb2)
           (try clear hk)
           (try clear hi)
           refine hK.out _ _ ⟨(blk_cell BK118.out 0).trans rfl, (blk_cell BK118.out 1).trans rfl, (blk_cell BK118.out 2).trans rfl, (blk_cell BK118.out 3).trans rfl⟩ (fun hHeld => ?_)
           clear hK K
           refine norm_ (a' := ?_) ?_ ?_
           rotate_left
           ·
            show Act.put _ (some 27) _ = _
            simp only [Act.put, sa_, s0_, s1_, i64_w, i32_w]
            rfl
           refine pA_ 2 28 ?_ (b_ 40 7) (any_of HT_.out (by kernel_rfl)) rfl rfl (fun _ _ _ h => h) (by rfl) ?_ ?_ ?_ ?_
           rotate_left
           ·
            intro w'
            go_simp
            with_reducible rfl
           rotate_left
           ·
            simp only [Act.put, sa_, s0_, s1_, i64_w, i32_w]
            rfl
           refine pA_ 3 29 ?_ (b_ 40 15) (any_of HT_.out (by kernel_rfl)) rfl rfl (fun _ _ _ h => h) (by rfl) ?_ ?_ ?_ ?_
           rotate_left
           ·
            intro w'
            go_simp
            with_reducible rfl
           rotate_left
           ·
            simp only [Act.put, sa_, s0_, s1_, i64_w, i32_w]
            rfl
           refine pA_ 4 30 ?_ (b_ 40 31) (any_of HT_.out (by kernel_rfl)) rfl rfl (fun _ _ _ h => h) (by rfl) ?_ ?_ ?_ ?_
           rotate_left
           ·
            intro w'
            go_simp
            with_reducible rfl
           rotate_left
           ·
            simp only [Act.put, sa_, s0_, s1_, i64_w, i32_w]
            rfl
           refine pA_ 5 31 ?_ (b_ 40 63) (any_of HT_.out (by kernel_rfl)) rfl rfl (fun _ _ _ h => h) (by rfl) ?_ ?_ ?_ ?_
           rotate_left
           ·
            intro w'
            go_simp
            with_reducible rfl
           rotate_left
           ·
            simp only [Act.put, sa_, s0_, s1_, i64_w, i32_w]
            rfl
           refine pA_ 6 32 ?_ (b_ 40 127) (any_of HT_.out (by kernel_rfl)) rfl rfl (fun _ _ _ h => h) (by rfl) ?_ ?_ ?_ ?_
           rotate_left
           ·
            intro w'
            go_simp
            with_reducible rfl
           rotate_left
           ·
            simp only [Act.put, sa_, s0_, s1_, i64_w, i32_w]
            rfl
           refine pB_ 7 33 ?_ (b_ 40 255) (any_of HT_.out (by kernel_rfl)) rfl rfl (fun _ _ _ h => h) (by rfl) ?_ ?_
           rotate_left
           ·
            simp only [Act.put, sa_, s0_, s1_, i64_w, i32_w]
            rfl
           refine pB_ 8 34 ?_ (b_ 40 511) (any_of HT_.out (by kernel_rfl)) rfl rfl (fun _ _ _ h => h) (by rfl) ?_ ?_
           rotate_left
           ·
            simp only [Act.put, sa_, s0_, s1_, i64_w, i32_w]
            rfl
           refine pB_ 9 35 ?_ (b_ 40 1023) (any_of HT_.out (by kernel_rfl)) rfl rfl (fun _ _ _ h => h) (by rfl) ?_ ?_
           rotate_left
           ·
            simp only [Act.put, sa_, s0_, s1_, i64_w, i32_w]
            rfl
           refine pB_ 10 36 ?_ (b_ 40 2047) (any_of HT_.out (by kernel_rfl)) rfl rfl (fun _ _ _ h => h) (by rfl) ?_ ?_
           rotate_left
           ·
            simp only [Act.put, sa_, s0_, s1_, i64_w, i32_w]
            rfl
           refine pB_ 11 37 ?_ (b_ 40 4095) (any_of HT_.out (by kernel_rfl)) rfl rfl (fun _ _ _ h => h) (by rfl) ?_ ?_
           rotate_left
           ·
            simp only [Act.put, sa_, s0_, s1_, i64_w, i32_w]
            rfl
           refine pB_ 12 38 ?_ (b_ 40 8191) (any_of HT_.out (by kernel_rfl)) rfl rfl (fun _ _ _ h => h) (by rfl) ?_ ?_
           rotate_left
           ·
            simp only [Act.put, sa_, s0_, s1_, i64_w, i32_w]
            rfl
           refine pB_ 13 39 ?_ (b_ 40 16383) (any_of HT_.out (by kernel_rfl)) rfl rfl (fun _ _ _ h => h) (by rfl) ?_ ?_
           rotate_left
           ·
            simp only [Act.put, sa_, s0_, s1_, i64_w, i32_w]
            rfl
           refine pB_ 14 40 ?_ (b_ 40 32767) (any_of HT_.out (by kernel_rfl)) rfl rfl (fun _ _ _ h => h) (by rfl) ?_ ?_
           rotate_left
           ·
            simp only [Act.put, sa_, s0_, s1_, i64_w, i32_w]
            rfl
           refine pB_ 15 41 ?_ (b_ 40 65535) (any_of HT_.out (by kernel_rfl)) rfl rfl (fun _ _ _ h => h) (by rfl) ?_ ?_
           rotate_left
           ·
            simp only [Act.put, sa_, s0_, s1_, i64_w, i32_w]
            rfl
           refine pB_ 16 42 ?_ (b_ 40 131071) (any_of HT_.out (by kernel_rfl)) rfl rfl (fun _ _ _ h => h) (by rfl) ?_ ?_
           rotate_left
           ·
            simp only [Act.put, sa_, s0_, s1_, i64_w, i32_w]
            rfl
           refine pB_ 17 43 ?_ (b_ 40 262143) (any_of HT_.out (by kernel_rfl)) rfl rfl (fun _ _ _ h => h) (by rfl) ?_ ?_
           rotate_left
           ·
            simp only [Act.put, sa_, s0_, s1_, i64_w, i32_w]
            rfl
           refine pB_ 18 44 ?_ (b_ 40 524287) (any_of HT_.out (by kernel_rfl)) rfl rfl (fun _ _ _ h => h) (by rfl) ?_ ?_
           rotate_left
           ·
            simp only [Act.put, sa_, s0_, s1_, i64_w, i32_w]
            rfl
           refine pB_ 19 45 ?_ (b_ 40 1048575) (any_of HT_.out (by kernel_rfl)) rfl rfl (fun _ _ _ h => h) (by rfl) ?_ ?_
           rotate_left
           ·
            simp only [Act.put, sa_, s0_, s1_, i64_w, i32_w]
            rfl
           refine pB_ 20 46 ?_ (b_ 40 2097151) (any_of HT_.out (by kernel_rfl)) rfl rfl (fun _ _ _ h => h) (by rfl) ?_ ?_
           rotate_left
           ·
            simp only [Act.put, sa_, s0_, s1_, i64_w, i32_w]
            rfl
           refine pB_ 21 47 ?_ (b_ 40 4194303) (any_of HT_.out (by kernel_rfl)) rfl rfl (fun _ _ _ h => h) (by rfl) ?_ ?_
           rotate_left
           ·
            simp only [Act.put, sa_, s0_, s1_, i64_w, i32_w]
            rfl
           refine pB_ 22 48 ?_ (b_ 40 8388607) (any_of HT_.out (by kernel_rfl)) rfl rfl (fun _ _ _ h => h) (by rfl) ?_ ?_
           rotate_left
           ·
            simp only [Act.put, sa_, s0_, s1_, i64_w, i32_w]
            rfl
           refine pB_ 23 49 ?_ (b_ 40 16777215) (any_of HT_.out (by kernel_rfl)) rfl rfl (fun _ _ _ h => h) (by rfl) ?_ ?_
           rotate_left
           ·
            simp only [Act.put, sa_, s0_, s1_, i64_w, i32_w]
            rfl
           refine pB_ 24 50 ?_ (b_ 40 33554431) (any_of HT_.out (by kernel_rfl)) rfl rfl (fun _ _ _ h => h) (by rfl) ?_ ?_
           rotate_left
           ·
            simp only [Act.put, sa_, s0_, s1_, i64_w, i32_w]
            rfl
           refine pB_ 25 51 ?_ (b_ 40 67108863) (any_of HT_.out (by kernel_rfl)) rfl rfl (fun _ _ _ h => h) (by rfl) ?_ ?_
           rotate_left
           ·
            simp only [Act.put, sa_, s0_, s1_, i64_w, i32_w]
            rfl
           refine pB_ 26 52 ?_ (b_ 40 134217727) (any_of HT_.out (by kernel_rfl)) rfl rfl (fun _ _ _ h => h) (by rfl) ?_ ?_
           rotate_left
           ·
            simp only [Act.put, sa_, s0_, s1_, i64_w, i32_w]
            rfl
           refine pB_ 27 53 ?_ (b_ 40 268435455) (any_of HT_.out (by kernel_rfl)) rfl rfl (fun _ _ _ h => h) (by rfl) ?_ ?_
           rotate_left
           ·
            simp only [Act.put, sa_, s0_, s1_, i64_w, i32_w]
            rfl
           refine pB_ 28 54 ?_ (b_ 40 536870911) (any_of HT_.out (by kernel_rfl)) rfl rfl (fun _ _ _ h => h) (by rfl) ?_ ?_
           rotate_left
           ·
            simp only [Act.put, sa_, s0_, s1_, i64_w, i32_w]
            rfl
           refine pB_ 29 55 ?_ (b_ 40 1073741823) (any_of HT_.out (by kernel_rfl)) rfl rfl (fun _ _ _ h => h) (by rfl) ?_ ?_
           rotate_left
           ·
            simp only [Act.put, sa_, s0_, s1_, i64_w, i32_w]
            rfl
           refine pB_ 30 56 ?_ (b_ 40 2147483647) (any_of HT_.out (by kernel_rfl)) rfl rfl (fun _ _ _ h => h) (by rfl) ?_ ?_
           rotate_left
           ·
            simp only [Act.put, sa_, s0_, s1_, i64_w, i32_w]
            rfl
           refine pB_ 31 57 ?_ (b_ 40 4294967295) (any_of HT_.out (by kernel_rfl)) rfl rfl (fun _ _ _ h => h) (by rfl) ?_ ?_
           rotate_left
           ·
            simp only [Act.put, sa_, s0_, s1_, i64_w, i32_w]
            rfl
           refine pB_ 32 58 ?_ (b_ 40 8589934591) (any_of HT_.out (by kernel_rfl)) rfl rfl (fun _ _ _ h => h) (by rfl) ?_ ?_
           rotate_left
           ·
            simp only [Act.put, sa_, s0_, s1_, i64_w, i32_w]
            rfl
           refine pB_ 33 59 ?_ (b_ 40 17179869183) (any_of HT_.out (by kernel_rfl)) rfl rfl (fun _ _ _ h => h) (by rfl) ?_ ?_
           rotate_left
           ·
            simp only [Act.put, sa_, s0_, s1_, i64_w, i32_w]
            rfl
           refine pB_ 34 60 ?_ (b_ 40 34359738367) (any_of HT_.out (by kernel_rfl)) rfl rfl (fun _ _ _ h => h) (by rfl) ?_ ?_
           rotate_left
           ·
            simp only [Act.put, sa_, s0_, s1_, i64_w, i32_w]
            rfl
           refine pB_ 35 61 ?_ (b_ 40 68719476735) (any_of HT_.out (by kernel_rfl)) rfl rfl (fun _ _ _ h => h) (by rfl) ?_ ?_
           rotate_left
           ·
            simp only [Act.put, sa_, s0_, s1_, i64_w, i32_w]
            rfl
           refine pB_ 36 62 ?_ (b_ 40 137438953471) (any_of HT_.out (by kernel_rfl)) rfl rfl (fun _ _ _ h => h) (by rfl) ?_ ?_
           rotate_left
           ·
            simp only [Act.put, sa_, s0_, s1_, i64_w, i32_w]
            rfl
           refine pB_ 37 63 ?_ (b_ 40 274877906943) (any_of HT_.out (by kernel_rfl)) rfl rfl (fun _ _ _ h => h) (by rfl) ?_ ?_
           rotate_left
           ·
            simp only [Act.put, sa_, s0_, s1_, i64_w, i32_w]
            rfl
           refine pA_ 38 64 ?_ (b_ 40 549755813887) (any_of HT_.out (by kernel_rfl)) rfl rfl (fun _ _ _ h => h) (by rfl) ?_ ?_ ?_ ?_
           rotate_left
           ·
            intro w'
            go_simp
            with_reducible rfl
           rotate_left
           ·
            simp only [Act.put, sa_, s0_, s1_, i64_w, i32_w]
            rfl
           refine pA_ 39 65 ?_ (b_ 40 1099511627775) (any_of HT_.out (by kernel_rfl)) rfl rfl (fun _ _ _ h => h) (by rfl) ?_ ?_ ?_ ?_
           rotate_left
           ·
            intro w'
            go_simp
            with_reducible rfl
           rotate_left
           ·
            simp only [Act.put, sa_, s0_, s1_, i64_w, i32_w]
            rfl
           refine done_ (done_of HT_.out (by kernel_rfl)) ?_
           try go_wp2
           go_roundg k2
           case measure => have := HJ1.out; have := HK2.out; omega
           case rel => exact ⟨(wrap64 (x21_2 + 1)), (by first | rfl | (simp; done) | (simp [*]; done)), H', ⟨by have := HJ1.out; have := HK2.out; omega⟩, ⟨by repeat (first | (with_reducible first | exact HB.out | apply below_alloc | apply pw_below_drewN | apply below_drew1 | refine below_set ?_ GE118.out) | exact HB.out)⟩⟩
         ·
          replace c9 := Bool.eq_false_iff.mpr c9
          subst c9
          have H1 : (some (([] : List Int), 8)) = some (r1, r2) := by rw [if_neg (show ¬ (false = true) by decide)] at H; exact H
          clear H
          have H := H1
          clear H1
          simp only [Option.some.injEq, Prod.mk.injEq] at H
          obtain ⟨rfl, rfl⟩ := H
          have p117 : 0 ≤ (x21_2 : Int) := of_decide_eq_true (by first | (with_reducible assumption) | assumption)
          have q117 : x21_2 < (l0.length : Int) := of_decide_eq_true (by first | (with_reducible assumption) | assumption)
          obtain ⟨ad117, e117, hx117_0, hx117_1, hx117_2, hx117_3⟩ := at_T39 HR0.out x21_2 p117 q117
          cases e117
          replace hx117_0 := cl_ HB.out hx117_0
          replace hx117_1 := cl_ HB.out hx117_1
          replace hx117_2 := cl_ HB.out hx117_2
          replace hx117_3 := cl_ HB.out hx117_3
          replace p117 := eq_true p117
          replace q117 := eq_true q117
          try go_wp2_with (first | ((with_reducible refine gate_dst (N := 5) rfl ?_); (try (refine gate_guard (by rfl) ?_; dsimp only)); refine box_event ?hg (N := 5) ?hd (cs := #[.string (⟨#[]⟩ : ByteArray), .int .i64 0, .bool false, .string (⟨#[]⟩ : ByteArray)]) (t := 39) ?hr ?_; (case hd => rfl); (case hg => rfl); (case hr => first | (go_simp; done) | (go_simp; rfl)); intro gb118 hg w42 hbox hb; have n0_ := Aside0.mk (below_step (by repeat (first | (with_reducible first | exact HB.out | apply below_alloc | apply pw_below_drewN | apply below_drew1) | exact HB.out)) hb); have n1_ := Aside0.mk (hbox); have n2_ := Aside0.mk ((by rw [hg]; exact (below_size (by repeat (first | (with_reducible first | exact HB.out | apply below_alloc | apply pw_below_drewN | apply below_drew1) | exact HB.out))) : w.heap.size ≤ gb118)); have n3_ := Aside0.mk ((by rw [hg]; exact (below_size (by repeat (first | (with_reducible first | exact HB.out | apply below_alloc | apply pw_below_drewN | apply below_drew1) | exact HB.out))) : w.heap.size ≤ gb118)); clear HB; have HB := n0_; have BK118 := n1_; have GW118 := n2_; have GE118 := n3_; clear n0_ n1_ n2_ n3_; clear hb hbox hg; have hcz43_0 : w42.cell? ⟨gb118, 0, none⟩ = some (.string (⟨#[]⟩ : ByteArray)) := (blk_cell BK118.out 0).trans rfl; have hcz43_1 : w42.cell? ⟨gb118, 1, none⟩ = some (.int .i64 0) := (blk_cell BK118.out 1).trans rfl; have hcz43_2 : w42.cell? ⟨gb118, 2, none⟩ = some (.bool false) := (blk_cell BK118.out 2).trans rfl; have hcz43_3 : w42.cell? ⟨gb118, 3, none⟩ = some (.string (⟨#[]⟩ : ByteArray)) := (blk_cell BK118.out 3).trans rfl; have hfz43_0 := blk_frozen BK118.out 0; have hfz43_1 := blk_frozen BK118.out 1; have hfz43_2 := blk_frozen BK118.out 2; have hfz43_3 := blk_frozen BK118.out 3))
          have n0_ : Aside0 (((((w42.setCell ⟨gb118, 0, none⟩ (.string ((rd_T39 l0 x21_2).f0))).setCell ⟨gb118, 1, none⟩ (.int .i64 ((rd_T39 l0 x21_2).f1))).setCell ⟨gb118, 2, none⟩ (.bool ((rd_T39 l0 x21_2).f2))).setCell ⟨gb118, 3, none⟩ (.string ((rd_T39 l0 x21_2).f3))).heap[gb118]? = some (.cells #[.string ((rd_T39 l0 x21_2).f0), .int .i64 ((rd_T39 l0 x21_2).f1), .bool ((rd_T39 l0 x21_2).f2), .string ((rd_T39 l0 x21_2).f3)] 39 (0, 0))) := ⟨by (with_reducible repeat (first | refine blk_drewN ?_ _ | refine blk_drew ?_ | refine blk_alloc ?_ _)); refine blk_put (cs := #[.string ((rd_T39 l0 x21_2).f0), .int .i64 ((rd_T39 l0 x21_2).f1), .bool ((rd_T39 l0 x21_2).f2), .string (⟨#[]⟩ : ByteArray)]) ?_ 3 _ rfl; (with_reducible repeat (first | refine blk_drewN ?_ _ | refine blk_drew ?_ | refine blk_alloc ?_ _)); refine blk_put (cs := #[.string ((rd_T39 l0 x21_2).f0), .int .i64 ((rd_T39 l0 x21_2).f1), .bool false, .string (⟨#[]⟩ : ByteArray)]) ?_ 2 _ rfl; (with_reducible repeat (first | refine blk_drewN ?_ _ | refine blk_drew ?_ | refine blk_alloc ?_ _)); refine blk_put (cs := #[.string ((rd_T39 l0 x21_2).f0), .int .i64 0, .bool false, .string (⟨#[]⟩ : ByteArray)]) ?_ 1 _ rfl; (with_reducible repeat (first | refine blk_drewN ?_ _ | refine blk_drew ?_ | refine blk_alloc ?_ _)); refine blk_put (cs := #[.string (⟨#[]⟩ : ByteArray), .int .i64 0, .bool false, .string (⟨#[]⟩ : ByteArray)]) ?_ 0 _ rfl; (with_reducible repeat (first | refine blk_drewN ?_ _ | refine blk_drew ?_ | refine blk_alloc ?_ _)); exact BK118.out⟩
          have n1_ : Aside0 (Below w.heap.size w ((((w42.setCell ⟨gb118, 0, none⟩ (.string ((rd_T39 l0 x21_2).f0))).setCell ⟨gb118, 1, none⟩ (.int .i64 ((rd_T39 l0 x21_2).f1))).setCell ⟨gb118, 2, none⟩ (.bool ((rd_T39 l0 x21_2).f2))).setCell ⟨gb118, 3, none⟩ (.string ((rd_T39 l0 x21_2).f3)))) := ⟨by repeat (first | (with_reducible first | exact HB.out | apply below_alloc | apply pw_below_drewN | apply below_drew1 | refine below_set ?_ GE118.out) | exact HB.out)⟩
          (try clear BK118)
          (try clear HB)
          generalize ((((w42.setCell ⟨gb118, 0, none⟩ (.string ((rd_T39 l0 x21_2).f0))).setCell ⟨gb118, 1, none⟩ (.int .i64 ((rd_T39 l0 x21_2).f1))).setCell ⟨gb118, 2, none⟩ (.bool ((rd_T39 l0 x21_2).f2))).setCell ⟨gb118, 3, none⟩ (.string ((rd_T39 l0 x21_2).f3))) = w44 at n0_ n1_ ⊢
          have BK118 := n0_
          have HB := n1_
          clear n0_ n1_
          obtain ⟨BK118, HB⟩ := And.intro (Aside0.mk (blk_drew BK118.out)) (Aside0.mk (below_drew1 HB.out))
          refine start_ (n := 40) (S := fun w' => w'.cell? ⟨gb118, 0, none⟩ = some (.string ((rd_T39 l0 x21_2).f0)) ∧ w'.cell? ⟨gb118, 1, none⟩ = some (.int .i64 ((rd_T39 l0 x21_2).f1)) ∧ w'.cell? ⟨gb118, 2, none⟩ = some (.bool ((rd_T39 l0 x21_2).f2)) ∧ w'.cell? ⟨gb118, 3, none⟩ = some (.string ((rd_T39 l0 x21_2).f3))) (ds := []) (b_ 40 0) (by kernel_rfl) rfl rfl ⟨(blk_cell BK118.out 0).trans rfl, (blk_cell BK118.out 1).trans rfl, (blk_cell BK118.out 2).trans rfl, (blk_cell BK118.out 3).trans rfl⟩ (fun hHeld => ?_); refine with_tabW block_Write.tab6 block_Write.bits6 (fun HT_ HW_ => ?_)
          generalize w44.drew = w45 at BK118 HB hHeld ⊢
          refine tA_ 0 26 ?_ (b_ 40 1) (take_ofW HT_.out HW_.out (by kernel_rfl)) rfl rfl (fun _ _ _ h => h) (by rfl) ?_ hHeld ?_ ?_ ?_
          rotate_left
          ·
           rintro w' ⟨s0, s1, s2, s3⟩
           go_simp
           with_reducible rfl
          rotate_left
          ·
           simp only [Act.put, sa_, s0_, s1_, i64_w, i32_w]
           rfl
          refine one_ (i := 1) (N := some 27) (b_ 40 3) rfl rfl (one_of HT_.out (by kernel_rfl)) (by decide) (fun K hK => ?_)
          refine goes_ Try.func20 (by kernel_rfl) rfl #[.agg #[.string ((rd_T39 l0 x21_2).f0), .int .i64 ((rd_T39 l0 x21_2).f1), .bool ((rd_T39 l0 x21_2).f2), .string ((rd_T39 l0 x21_2).f3)]] (by rfl) rfl rfl (by (try simp only [List.map_toArray, List.map_cons, List.map_nil]); first | done | rfl | (simp only [List.length_drop, List.length_take]; rfl)) ?_
          with_reducible refine (block_may.calls ((rd_T39 l0 x21_2).f0) ((rd_T39 l0 x21_2).f1) ((rd_T39 l0 x21_2).f2) ((rd_T39 l0 x21_2).f3) false _ A8.out).mono ?_
          rintro e w46 ⟨rfl, hb⟩
          refine ⟨_, rfl, ?_⟩
          obtain ⟨BK118, HB⟩ := And.intro (Aside0.mk (blk_below (g := gb118) (o := .cells #[.string ((rd_T39 l0 x21_2).f0), .int .i64 ((rd_T39 l0 x21_2).f1), .bool ((rd_T39 l0 x21_2).f2), .string ((rd_T39 l0 x21_2).f3)] 39 (0, 0)) (by (with_reducible repeat (first | refine blk_drewN ?_ _ | refine blk_drew ?_ | refine blk_alloc ?_ _)); exact BK118.out) hb)) (Aside0.mk (below_step (by repeat (first | (with_reducible first | exact HB.out | apply below_alloc | apply pw_below_drewN | apply below_drew1 | refine below_set ?_ GE118.out) | exact HB.out)) hb))
          (try clear hb)
          (try clear hb2)
          (try clear hk)
          (try clear hi)
          refine hK.out _ _ ⟨(blk_cell BK118.out 0).trans rfl, (blk_cell BK118.out 1).trans rfl, (blk_cell BK118.out 2).trans rfl, (blk_cell BK118.out 3).trans rfl⟩ (fun hHeld => ?_)
          clear hK K
          refine norm_ (a' := ?_) ?_ ?_
          rotate_left
          ·
           show Act.put _ (some 27) _ = _
           simp only [Act.put, sa_, s0_, s1_, i64_w, i32_w]
           rfl
          refine pA_ 2 28 ?_ (b_ 40 7) (any_of HT_.out (by kernel_rfl)) rfl rfl (fun _ _ _ h => h) (by rfl) ?_ ?_ ?_ ?_
          rotate_left
          ·
           intro w'
           go_simp
           with_reducible rfl
          rotate_left
          ·
           simp only [Act.put, sa_, s0_, s1_, i64_w, i32_w]
           rfl
          refine pA_ 3 29 ?_ (b_ 40 15) (any_of HT_.out (by kernel_rfl)) rfl rfl (fun _ _ _ h => h) (by rfl) ?_ ?_ ?_ ?_
          rotate_left
          ·
           intro w'
           go_simp
           with_reducible rfl
          rotate_left
          ·
           simp only [Act.put, sa_, s0_, s1_, i64_w, i32_w]
           rfl
          refine pB_ 4 30 ?_ (b_ 40 31) (any_of HT_.out (by kernel_rfl)) rfl rfl (fun _ _ _ h => h) (by rfl) ?_ ?_
          rotate_left
          ·
           simp only [Act.put, sa_, s0_, s1_, i64_w, i32_w]
           rfl
          refine pB_ 5 31 ?_ (b_ 40 63) (any_of HT_.out (by kernel_rfl)) rfl rfl (fun _ _ _ h => h) (by rfl) ?_ ?_
          rotate_left
          ·
           simp only [Act.put, sa_, s0_, s1_, i64_w, i32_w]
           rfl
          refine pB_ 6 32 ?_ (b_ 40 127) (any_of HT_.out (by kernel_rfl)) rfl rfl (fun _ _ _ h => h) (by rfl) ?_ ?_
          rotate_left
          ·
           simp only [Act.put, sa_, s0_, s1_, i64_w, i32_w]
           rfl
          refine pB_ 7 33 ?_ (b_ 40 255) (any_of HT_.out (by kernel_rfl)) rfl rfl (fun _ _ _ h => h) (by rfl) ?_ ?_
          rotate_left
          ·
           simp only [Act.put, sa_, s0_, s1_, i64_w, i32_w]
           rfl
          refine pB_ 8 34 ?_ (b_ 40 511) (any_of HT_.out (by kernel_rfl)) rfl rfl (fun _ _ _ h => h) (by rfl) ?_ ?_
          rotate_left
          ·
           simp only [Act.put, sa_, s0_, s1_, i64_w, i32_w]
           rfl
          refine pB_ 9 35 ?_ (b_ 40 1023) (any_of HT_.out (by kernel_rfl)) rfl rfl (fun _ _ _ h => h) (by rfl) ?_ ?_
          rotate_left
          ·
           simp only [Act.put, sa_, s0_, s1_, i64_w, i32_w]
           rfl
          refine pB_ 10 36 ?_ (b_ 40 2047) (any_of HT_.out (by kernel_rfl)) rfl rfl (fun _ _ _ h => h) (by rfl) ?_ ?_
          rotate_left
          ·
           simp only [Act.put, sa_, s0_, s1_, i64_w, i32_w]
           rfl
          refine pB_ 11 37 ?_ (b_ 40 4095) (any_of HT_.out (by kernel_rfl)) rfl rfl (fun _ _ _ h => h) (by rfl) ?_ ?_
          rotate_left
          ·
           simp only [Act.put, sa_, s0_, s1_, i64_w, i32_w]
           rfl
          refine pB_ 12 38 ?_ (b_ 40 8191) (any_of HT_.out (by kernel_rfl)) rfl rfl (fun _ _ _ h => h) (by rfl) ?_ ?_
          rotate_left
          ·
           simp only [Act.put, sa_, s0_, s1_, i64_w, i32_w]
           rfl
          refine pB_ 13 39 ?_ (b_ 40 16383) (any_of HT_.out (by kernel_rfl)) rfl rfl (fun _ _ _ h => h) (by rfl) ?_ ?_
          rotate_left
          ·
           simp only [Act.put, sa_, s0_, s1_, i64_w, i32_w]
           rfl
          refine pB_ 14 40 ?_ (b_ 40 32767) (any_of HT_.out (by kernel_rfl)) rfl rfl (fun _ _ _ h => h) (by rfl) ?_ ?_
          rotate_left
          ·
           simp only [Act.put, sa_, s0_, s1_, i64_w, i32_w]
           rfl
          refine pB_ 15 41 ?_ (b_ 40 65535) (any_of HT_.out (by kernel_rfl)) rfl rfl (fun _ _ _ h => h) (by rfl) ?_ ?_
          rotate_left
          ·
           simp only [Act.put, sa_, s0_, s1_, i64_w, i32_w]
           rfl
          refine pB_ 16 42 ?_ (b_ 40 131071) (any_of HT_.out (by kernel_rfl)) rfl rfl (fun _ _ _ h => h) (by rfl) ?_ ?_
          rotate_left
          ·
           simp only [Act.put, sa_, s0_, s1_, i64_w, i32_w]
           rfl
          refine pB_ 17 43 ?_ (b_ 40 262143) (any_of HT_.out (by kernel_rfl)) rfl rfl (fun _ _ _ h => h) (by rfl) ?_ ?_
          rotate_left
          ·
           simp only [Act.put, sa_, s0_, s1_, i64_w, i32_w]
           rfl
          refine pB_ 18 44 ?_ (b_ 40 524287) (any_of HT_.out (by kernel_rfl)) rfl rfl (fun _ _ _ h => h) (by rfl) ?_ ?_
          rotate_left
          ·
           simp only [Act.put, sa_, s0_, s1_, i64_w, i32_w]
           rfl
          refine pB_ 19 45 ?_ (b_ 40 1048575) (any_of HT_.out (by kernel_rfl)) rfl rfl (fun _ _ _ h => h) (by rfl) ?_ ?_
          rotate_left
          ·
           simp only [Act.put, sa_, s0_, s1_, i64_w, i32_w]
           rfl
          refine pB_ 20 46 ?_ (b_ 40 2097151) (any_of HT_.out (by kernel_rfl)) rfl rfl (fun _ _ _ h => h) (by rfl) ?_ ?_
          rotate_left
          ·
           simp only [Act.put, sa_, s0_, s1_, i64_w, i32_w]
           rfl
          refine pB_ 21 47 ?_ (b_ 40 4194303) (any_of HT_.out (by kernel_rfl)) rfl rfl (fun _ _ _ h => h) (by rfl) ?_ ?_
          rotate_left
          ·
           simp only [Act.put, sa_, s0_, s1_, i64_w, i32_w]
           rfl
          refine pB_ 22 48 ?_ (b_ 40 8388607) (any_of HT_.out (by kernel_rfl)) rfl rfl (fun _ _ _ h => h) (by rfl) ?_ ?_
          rotate_left
          ·
           simp only [Act.put, sa_, s0_, s1_, i64_w, i32_w]
           rfl
          refine pB_ 23 49 ?_ (b_ 40 16777215) (any_of HT_.out (by kernel_rfl)) rfl rfl (fun _ _ _ h => h) (by rfl) ?_ ?_
          rotate_left
          ·
           simp only [Act.put, sa_, s0_, s1_, i64_w, i32_w]
           rfl
          refine pB_ 24 50 ?_ (b_ 40 33554431) (any_of HT_.out (by kernel_rfl)) rfl rfl (fun _ _ _ h => h) (by rfl) ?_ ?_
          rotate_left
          ·
           simp only [Act.put, sa_, s0_, s1_, i64_w, i32_w]
           rfl
          refine pB_ 25 51 ?_ (b_ 40 67108863) (any_of HT_.out (by kernel_rfl)) rfl rfl (fun _ _ _ h => h) (by rfl) ?_ ?_
          rotate_left
          ·
           simp only [Act.put, sa_, s0_, s1_, i64_w, i32_w]
           rfl
          refine pB_ 26 52 ?_ (b_ 40 134217727) (any_of HT_.out (by kernel_rfl)) rfl rfl (fun _ _ _ h => h) (by rfl) ?_ ?_
          rotate_left
          ·
           simp only [Act.put, sa_, s0_, s1_, i64_w, i32_w]
           rfl
          refine pB_ 27 53 ?_ (b_ 40 268435455) (any_of HT_.out (by kernel_rfl)) rfl rfl (fun _ _ _ h => h) (by rfl) ?_ ?_
          rotate_left
          ·
           simp only [Act.put, sa_, s0_, s1_, i64_w, i32_w]
           rfl
          refine pB_ 28 54 ?_ (b_ 40 536870911) (any_of HT_.out (by kernel_rfl)) rfl rfl (fun _ _ _ h => h) (by rfl) ?_ ?_
          rotate_left
          ·
           simp only [Act.put, sa_, s0_, s1_, i64_w, i32_w]
           rfl
          refine pB_ 29 55 ?_ (b_ 40 1073741823) (any_of HT_.out (by kernel_rfl)) rfl rfl (fun _ _ _ h => h) (by rfl) ?_ ?_
          rotate_left
          ·
           simp only [Act.put, sa_, s0_, s1_, i64_w, i32_w]
           rfl
          refine pB_ 30 56 ?_ (b_ 40 2147483647) (any_of HT_.out (by kernel_rfl)) rfl rfl (fun _ _ _ h => h) (by rfl) ?_ ?_
          rotate_left
          ·
           simp only [Act.put, sa_, s0_, s1_, i64_w, i32_w]
           rfl
          refine pB_ 31 57 ?_ (b_ 40 4294967295) (any_of HT_.out (by kernel_rfl)) rfl rfl (fun _ _ _ h => h) (by rfl) ?_ ?_
          rotate_left
          ·
           simp only [Act.put, sa_, s0_, s1_, i64_w, i32_w]
           rfl
          refine pB_ 32 58 ?_ (b_ 40 8589934591) (any_of HT_.out (by kernel_rfl)) rfl rfl (fun _ _ _ h => h) (by rfl) ?_ ?_
          rotate_left
          ·
           simp only [Act.put, sa_, s0_, s1_, i64_w, i32_w]
           rfl
          refine pB_ 33 59 ?_ (b_ 40 17179869183) (any_of HT_.out (by kernel_rfl)) rfl rfl (fun _ _ _ h => h) (by rfl) ?_ ?_
          rotate_left
          ·
           simp only [Act.put, sa_, s0_, s1_, i64_w, i32_w]
           rfl
          refine pB_ 34 60 ?_ (b_ 40 34359738367) (any_of HT_.out (by kernel_rfl)) rfl rfl (fun _ _ _ h => h) (by rfl) ?_ ?_
          rotate_left
          ·
           simp only [Act.put, sa_, s0_, s1_, i64_w, i32_w]
           rfl
          refine pB_ 35 61 ?_ (b_ 40 68719476735) (any_of HT_.out (by kernel_rfl)) rfl rfl (fun _ _ _ h => h) (by rfl) ?_ ?_
          rotate_left
          ·
           simp only [Act.put, sa_, s0_, s1_, i64_w, i32_w]
           rfl
          refine pB_ 36 62 ?_ (b_ 40 137438953471) (any_of HT_.out (by kernel_rfl)) rfl rfl (fun _ _ _ h => h) (by rfl) ?_ ?_
          rotate_left
          ·
           simp only [Act.put, sa_, s0_, s1_, i64_w, i32_w]
           rfl
          refine pB_ 37 63 ?_ (b_ 40 274877906943) (any_of HT_.out (by kernel_rfl)) rfl rfl (fun _ _ _ h => h) (by rfl) ?_ ?_
          rotate_left
          ·
           simp only [Act.put, sa_, s0_, s1_, i64_w, i32_w]
           rfl
          refine pB_ 38 64 ?_ (b_ 40 549755813887) (any_of HT_.out (by kernel_rfl)) rfl rfl (fun _ _ _ h => h) (by rfl) ?_ ?_
          rotate_left
          ·
           simp only [Act.put, sa_, s0_, s1_, i64_w, i32_w]
           rfl
          refine pA_ 39 65 ?_ (b_ 40 1099511627775) (any_of HT_.out (by kernel_rfl)) rfl rfl (fun _ _ _ h => h) (by rfl) ?_ ?_ ?_ ?_
          rotate_left
          ·
           intro w'
           go_simp
           with_reducible rfl
          rotate_left
          ·
           simp only [Act.put, sa_, s0_, s1_, i64_w, i32_w]
           rfl
          refine done_ (done_of HT_.out (by kernel_rfl)) ?_
          try go_wp2
          go_ret2
          exact ⟨_, by first | rfl | (simp [errW_none, errW_some] <;> rfl) | (simp [*, errW_none, errW_some] <;> rfl) | exact ret_ie _ | (simp [*, errW_none, errW_some, bne]; done), by first | exact Kd.R_nil _ _ _ _ _ | exact Kd.N_nil _ _ _ _ _ | exact Kd.V_nil _ _ _ _ _ | exact Kd.Q_nil _ _ _ _ _ | exact Kd.S_nil _ _ _ _ _, by repeat (first | (with_reducible first | exact HB.out | apply below_alloc | apply pw_below_drewN | apply below_drew1 | refine below_set ?_ GE118.out) | exact HB.out)⟩
        ·
         rw [if_neg c7] at H
         exact absurd H (by simp)
       ·
        rw [if_neg c6] at H
        exact absurd H (by simp)
      ·
       rw [if_neg c5] at H
       have c5b0 : decide (x21_2 < (l0.length : Int)) = false := decide_eq_false c5
       clear c5
       replace H := Option.bind_eq_some_iff.mp H
       obtain ⟨t123, A470, H⟩ := H
       replace H : (block_Write.l1 k2 t123 (⟨#[]⟩ : ByteArray) l0 (l0.length : Int) 0) = some (r1, r2) := H
       have A47 := Aside0.mk A470
       clear A470
       have H' := Aside0.mk H
       clear H
       go_wp2_with (first | ((with_reducible refine gate_callee (f := 21) rfl ?_); refine goesL_ (some 70) rfl rfl Try.func21 (by kernel_rfl) rfl #[.int .u64 (IntKind.u64.wrap ((l0.length : Int)))] rfl (by (try simp only [List.map_toArray, List.map_cons, List.map_nil]); first | done | rfl | (simp only [List.length_drop, List.length_take]; rfl)) ?_; (with_reducible refine (code_Small.calls k2 (IntKind.u64.wrap ((l0.length : Int))) t123 _ A47.out).mono ?_); rintro e w48 ⟨v124, rfl, ho0, hb⟩; refine ⟨_, rfl, ?_⟩; have n0_ := Aside0.mk (Kd.R_lower ho0 (below_size (by repeat (first | (with_reducible first | exact HB.out | apply below_alloc | apply pw_below_drewN | apply below_drew1) | exact HB.out)))); have n1_ := Aside0.mk (below_step (by repeat (first | (with_reducible first | exact HB.out | apply below_alloc | apply pw_below_drewN | apply below_drew1) | exact HB.out)) hb); clear HB; have HO125 := n0_; have HB := n1_; clear n0_ n1_; (try clear hb); (try clear hb2); (try clear hk); (try clear hi); (try clear ho0)))
       go_loopg [6, 7, 73] k2 (fun kq v6 v7 v73 w' => ∃ (x6_3 : List Int) (x7_3 : ByteArray) (x73_3 : Int), v7 = .string x7_3 ∧ v73 = .int .i64 x73_3 ∧ Aside0 (block_Write.l1 kq x6_3 x7_3 l0 (l0.length : Int) x73_3 = some (r1, r2)) ∧ Aside0 (kq ≤ k2) ∧ Aside0 (Kd.R (Kd.int .u8) 5 w' w.heap.size (fun _ => True) v6 x6_3) ∧ Aside0 (Below w.heap.size w w'))
       case atStart => exact ⟨(t123), ((⟨#[]⟩ : ByteArray)), (0), (by first | rfl | (simp; done) | (simp [*]; done)), (by first | rfl | (simp; done) | (simp [*]; done)), H', ⟨Nat.le_refl _⟩, ⟨by (with_reducible repeat (first | apply Kd.R_alloc | apply Kd.R_drewN | apply Kd.R_drew)); exact HO125.out⟩, ⟨by repeat (first | (with_reducible first | exact HB.out | apply below_alloc | apply pw_below_drewN | apply below_drew1) | exact HB.out)⟩⟩
       case round =>
        clear H'
        try clear c1
        try clear p1
        try clear q1
        try clear hx1
        try clear c2
        try clear p2
        try clear c5
        try clear c5b0
        try clear c6
        try clear p6
        try clear c7
        try clear c9
        try clear c10
        try clear c10b0
        try clear p11
        try clear q11
        try clear hx11
        try clear c12
        try clear c13
        try clear c20
        try clear c21
        try clear hcz38_0
        try clear hcz38_1
        try clear hcz38_2
        try clear hcz38_3
        try clear hcz43_0
        try clear hcz43_1
        try clear hcz43_2
        try clear hcz43_3
        try clear hfz38_0
        try clear hfz38_1
        try clear hfz38_2
        try clear hfz38_3
        try clear hfz43_0
        try clear hfz43_1
        try clear hfz43_2
        try clear hfz43_3
        try clear hx117_0
        try clear hx117_1
        try clear hx117_2
        try clear hx117_3
        try clear p117
        try clear q117
        obtain ⟨x6_3, x7_3, x73_3, rfl, rfl, HA, HK3, HO_6, HB⟩ := hrel
        cases gk with
        | zero => exact absurd HA.out (by simp [block_Write.l1])
        | succ k3 =>
         have H := HA.out
         clear HA
         simp only [block_Write.l1] at H
         by_cases c49 : x73_3 < (l0.length : Int)
         ·
          rw [if_pos c49] at H
          have c49b0 : decide (x73_3 < (l0.length : Int)) = true := decide_eq_true c49
          clear c49
          by_cases c50 : 0 ≤ x73_3
          ·
           rw [if_pos c50] at H
           have c50b0 : decide (0 ≤ x73_3) = true := decide_eq_true c50
           clear c50
           by_cases c51 : x73_3 < (l0.length : Int)
           ·
            rw [if_pos c51] at H
            have c51b0 : decide (x73_3 < (l0.length : Int)) = true := decide_eq_true c51
            clear c51
            replace H := Option.bind_eq_some_iff.mp H
            obtain ⟨t128, A520, H⟩ := H
            replace H : ((code_Small.f k3 (IntKind.u64.wrap (t128))).bind fun t129 => (if x6_3.length + t129.length < 140737488355328 then ((some (x6_3 ++ t129 : List Int)).bind fun y132 => (if 0 ≤ t128 then (if t128 ≤ (((rd_T39 l0 x73_3).f0).size : Int) then ((code_Text.f k3 (((rd_T39 l0 x73_3).f0).extract (t128 : Int).toNat ((rd_T39 l0 x73_3).f0).size)).bind fun t135 => (if y132.length + t135.length < 140737488355328 then ((some (y132 ++ t135 : List Int)).bind fun y138 => ((code_Small.f k3 (IntKind.u64.wrap ((rd_T39 l0 x73_3).f1))).bind fun t141 => (if y138.length + t141.length < 140737488355328 then ((some (y138 ++ t141 : List Int)).bind fun y144 => (if (rd_T39 l0 x73_3).f2 = true then (if y144.length < 140737488355328 then (block_Write.l1 k3 (y144 ++ [1]) ((rd_T39 l0 x73_3).f0) l0 (l0.length : Int) (wrap64 (x73_3 + 1))) else (none)) else (if y144.length < 140737488355328 then ((some (y144 ++ [0] : List Int)).bind fun y150 => ((code_Text.f k3 ((rd_T39 l0 x73_3).f3)).bind fun t153 => (if y150.length + t153.length < 140737488355328 then (block_Write.l1 k3 (y150 ++ t153) ((rd_T39 l0 x73_3).f0) l0 (l0.length : Int) (wrap64 (x73_3 + 1))) else (none)))) else (none)))) else (none)))) else (none))) else (none)) else (none))) else (none))) = some (r1, r2) := H
            have A52 := Aside0.mk A520
            clear A520
            replace H := Option.bind_eq_some_iff.mp H
            obtain ⟨t129, A530, H⟩ := H
            replace H : (if x6_3.length + t129.length < 140737488355328 then ((some (x6_3 ++ t129 : List Int)).bind fun y132 => (if 0 ≤ t128 then (if t128 ≤ (((rd_T39 l0 x73_3).f0).size : Int) then ((code_Text.f k3 (((rd_T39 l0 x73_3).f0).extract (t128 : Int).toNat ((rd_T39 l0 x73_3).f0).size)).bind fun t135 => (if y132.length + t135.length < 140737488355328 then ((some (y132 ++ t135 : List Int)).bind fun y138 => ((code_Small.f k3 (IntKind.u64.wrap ((rd_T39 l0 x73_3).f1))).bind fun t141 => (if y138.length + t141.length < 140737488355328 then ((some (y138 ++ t141 : List Int)).bind fun y144 => (if (rd_T39 l0 x73_3).f2 = true then (if y144.length < 140737488355328 then (block_Write.l1 k3 (y144 ++ [1]) ((rd_T39 l0 x73_3).f0) l0 (l0.length : Int) (wrap64 (x73_3 + 1))) else (none)) else (if y144.length < 140737488355328 then ((some (y144 ++ [0] : List Int)).bind fun y150 => ((code_Text.f k3 ((rd_T39 l0 x73_3).f3)).bind fun t153 => (if y150.length + t153.length < 140737488355328 then (block_Write.l1 k3 (y150 ++ t153) ((rd_T39 l0 x73_3).f0) l0 (l0.length : Int) (wrap64 (x73_3 + 1))) else (none)))) else (none)))) else (none)))) else (none))) else (none)) else (none))) else (none)) = some (r1, r2) := H
            have A53 := Aside0.mk A530
            clear A530
            by_cases c54 : x6_3.length + t129.length < 140737488355328
            ·
             rw [if_pos c54] at H
             have LMc54 := Aside0.mk c54
             clear c54
             obtain ⟨y132, hy132⟩ : ∃ y_ : List Int, y_ = (x6_3 ++ t129) := ⟨_, rfl⟩
             replace H : (if 0 ≤ t128 then (if t128 ≤ (((rd_T39 l0 x73_3).f0).size : Int) then ((code_Text.f k3 (((rd_T39 l0 x73_3).f0).extract (t128 : Int).toNat ((rd_T39 l0 x73_3).f0).size)).bind fun t135 => (if y132.length + t135.length < 140737488355328 then ((some (y132 ++ t135 : List Int)).bind fun y138 => ((code_Small.f k3 (IntKind.u64.wrap ((rd_T39 l0 x73_3).f1))).bind fun t141 => (if y138.length + t141.length < 140737488355328 then ((some (y138 ++ t141 : List Int)).bind fun y144 => (if (rd_T39 l0 x73_3).f2 = true then (if y144.length < 140737488355328 then (block_Write.l1 k3 (y144 ++ [1]) ((rd_T39 l0 x73_3).f0) l0 (l0.length : Int) (wrap64 (x73_3 + 1))) else (none)) else (if y144.length < 140737488355328 then ((some (y144 ++ [0] : List Int)).bind fun y150 => ((code_Text.f k3 ((rd_T39 l0 x73_3).f3)).bind fun t153 => (if y150.length + t153.length < 140737488355328 then (block_Write.l1 k3 (y150 ++ t153) ((rd_T39 l0 x73_3).f0) l0 (l0.length : Int) (wrap64 (x73_3 + 1))) else (none)))) else (none)))) else (none)))) else (none))) else (none)) else (none)) = some (r1, r2) := by first | (rw [hy132]; with_reducible exact H) | (have H2_ := (Option.bind_some _ _).symm.trans H; rw [hy132]; with_reducible exact H2_) | (have H2_ := (Option.bind_some _ _).symm.trans H; with_reducible exact H2_) | with_reducible exact H | (rw [hy132]; exact H) | exact H
             have Ny132 := Aside0.mk hy132
             clear hy132
             by_cases c55 : 0 ≤ t128
             ·
              rw [if_pos c55] at H
              have c55b0 := eq_true c55
              have c55b1 : decide (0 ≤ t128) = true := decide_eq_true c55
              clear c55
              by_cases c56 : t128 ≤ (((rd_T39 l0 x73_3).f0).size : Int)
              ·
               rw [if_pos c56] at H
               have c56b0 := eq_true c56
               have c56b1 : decide (t128 ≤ (((rd_T39 l0 x73_3).f0).size : Int)) = true := decide_eq_true c56
               clear c56
               replace H := Option.bind_eq_some_iff.mp H
               obtain ⟨t135, A570, H⟩ := H
               replace H : (if y132.length + t135.length < 140737488355328 then ((some (y132 ++ t135 : List Int)).bind fun y138 => ((code_Small.f k3 (IntKind.u64.wrap ((rd_T39 l0 x73_3).f1))).bind fun t141 => (if y138.length + t141.length < 140737488355328 then ((some (y138 ++ t141 : List Int)).bind fun y144 => (if (rd_T39 l0 x73_3).f2 = true then (if y144.length < 140737488355328 then (block_Write.l1 k3 (y144 ++ [1]) ((rd_T39 l0 x73_3).f0) l0 (l0.length : Int) (wrap64 (x73_3 + 1))) else (none)) else (if y144.length < 140737488355328 then ((some (y144 ++ [0] : List Int)).bind fun y150 => ((code_Text.f k3 ((rd_T39 l0 x73_3).f3)).bind fun t153 => (if y150.length + t153.length < 140737488355328 then (block_Write.l1 k3 (y150 ++ t153) ((rd_T39 l0 x73_3).f0) l0 (l0.length : Int) (wrap64 (x73_3 + 1))) else (none)))) else (none)))) else (none)))) else (none)) = some (r1, r2) := H
               have A57 := Aside0.mk A570
               clear A570
               by_cases c58 : y132.length + t135.length < 140737488355328
               ·
                rw [if_pos c58] at H
                have LMc58 := Aside0.mk c58
                clear c58
                obtain ⟨y138, hy138⟩ : ∃ y_ : List Int, y_ = (y132 ++ t135) := ⟨_, rfl⟩
                replace H : ((code_Small.f k3 (IntKind.u64.wrap ((rd_T39 l0 x73_3).f1))).bind fun t141 => (if y138.length + t141.length < 140737488355328 then ((some (y138 ++ t141 : List Int)).bind fun y144 => (if (rd_T39 l0 x73_3).f2 = true then (if y144.length < 140737488355328 then (block_Write.l1 k3 (y144 ++ [1]) ((rd_T39 l0 x73_3).f0) l0 (l0.length : Int) (wrap64 (x73_3 + 1))) else (none)) else (if y144.length < 140737488355328 then ((some (y144 ++ [0] : List Int)).bind fun y150 => ((code_Text.f k3 ((rd_T39 l0 x73_3).f3)).bind fun t153 => (if y150.length + t153.length < 140737488355328 then (block_Write.l1 k3 (y150 ++ t153) ((rd_T39 l0 x73_3).f0) l0 (l0.length : Int) (wrap64 (x73_3 + 1))) else (none)))) else (none)))) else (none))) = some (r1, r2) := by first | (rw [hy138]; with_reducible exact H) | (have H2_ := (Option.bind_some _ _).symm.trans H; rw [hy138]; with_reducible exact H2_) | (have H2_ := (Option.bind_some _ _).symm.trans H; with_reducible exact H2_) | with_reducible exact H | (rw [hy138]; exact H) | exact H
                have Ny138 := Aside0.mk hy138
                clear hy138
                replace H := Option.bind_eq_some_iff.mp H
                obtain ⟨t141, A590, H⟩ := H
                replace H : (if y138.length + t141.length < 140737488355328 then ((some (y138 ++ t141 : List Int)).bind fun y144 => (if (rd_T39 l0 x73_3).f2 = true then (if y144.length < 140737488355328 then (block_Write.l1 k3 (y144 ++ [1]) ((rd_T39 l0 x73_3).f0) l0 (l0.length : Int) (wrap64 (x73_3 + 1))) else (none)) else (if y144.length < 140737488355328 then ((some (y144 ++ [0] : List Int)).bind fun y150 => ((code_Text.f k3 ((rd_T39 l0 x73_3).f3)).bind fun t153 => (if y150.length + t153.length < 140737488355328 then (block_Write.l1 k3 (y150 ++ t153) ((rd_T39 l0 x73_3).f0) l0 (l0.length : Int) (wrap64 (x73_3 + 1))) else (none)))) else (none)))) else (none)) = some (r1, r2) := H
                have A59 := Aside0.mk A590
                clear A590
                by_cases c60 : y138.length + t141.length < 140737488355328
                ·
                 rw [if_pos c60] at H
                 have LMc60 := Aside0.mk c60
                 clear c60
                 obtain ⟨y144, hy144⟩ : ∃ y_ : List Int, y_ = (y138 ++ t141) := ⟨_, rfl⟩
                 replace H : (if (rd_T39 l0 x73_3).f2 = true then (if y144.length < 140737488355328 then (block_Write.l1 k3 (y144 ++ [1]) ((rd_T39 l0 x73_3).f0) l0 (l0.length : Int) (wrap64 (x73_3 + 1))) else (none)) else (if y144.length < 140737488355328 then ((some (y144 ++ [0] : List Int)).bind fun y150 => ((code_Text.f k3 ((rd_T39 l0 x73_3).f3)).bind fun t153 => (if y150.length + t153.length < 140737488355328 then (block_Write.l1 k3 (y150 ++ t153) ((rd_T39 l0 x73_3).f0) l0 (l0.length : Int) (wrap64 (x73_3 + 1))) else (none)))) else (none))) = some (r1, r2) := by first | (rw [hy144]; with_reducible exact H) | (have H2_ := (Option.bind_some _ _).symm.trans H; rw [hy144]; with_reducible exact H2_) | (have H2_ := (Option.bind_some _ _).symm.trans H; with_reducible exact H2_) | with_reducible exact H | (rw [hy144]; exact H) | exact H
                 have Ny144 := Aside0.mk hy144
                 clear hy144
                 obtain ⟨bq61, hbq61⟩ : ∃ b_ : Bool, b_ = ((rd_T39 l0 x73_3).f2) := ⟨_, rfl⟩
                 replace H : (if bq61 = true then (if y144.length < 140737488355328 then (block_Write.l1 k3 (y144 ++ [1]) ((rd_T39 l0 x73_3).f0) l0 (l0.length : Int) (wrap64 (x73_3 + 1))) else (none)) else (if y144.length < 140737488355328 then ((some (y144 ++ [0] : List Int)).bind fun y150 => ((code_Text.f k3 ((rd_T39 l0 x73_3).f3)).bind fun t153 => (if y150.length + t153.length < 140737488355328 then (block_Write.l1 k3 (y150 ++ t153) ((rd_T39 l0 x73_3).f0) l0 (l0.length : Int) (wrap64 (x73_3 + 1))) else (none)))) else (none))) = some (r1, r2) := by rw [← hbq61] at H; exact H
                 have Nbq61 := Aside0.mk hbq61
                 clear hbq61
                 by_cases c62 : bq61 = true
                 ·
                  subst c62
                  have H1 : (if y144.length < 140737488355328 then (block_Write.l1 k3 (y144 ++ [1]) ((rd_T39 l0 x73_3).f0) l0 (l0.length : Int) (wrap64 (x73_3 + 1))) else (none)) = some (r1, r2) := by rw [if_pos rfl] at H; exact H
                  clear H
                  have H := H1
                  clear H1
                  by_cases c63 : y144.length < 140737488355328
                  ·
                   rw [if_pos c63] at H
                   have LMc63 := Aside0.mk c63
                   clear c63
                   obtain ⟨y147, hy147⟩ : ∃ y_ : List Int, y_ = (y144 ++ [1]) := ⟨_, rfl⟩
                   replace H : (block_Write.l1 k3 y147 ((rd_T39 l0 x73_3).f0) l0 (l0.length : Int) (wrap64 (x73_3 + 1))) = some (r1, r2) := by first | (rw [hy147]; with_reducible exact H) | (have H2_ := (Option.bind_some _ _).symm.trans H; rw [hy147]; with_reducible exact H2_) | (have H2_ := (Option.bind_some _ _).symm.trans H; with_reducible exact H2_) | with_reducible exact H | (rw [hy147]; exact H) | exact H
                   have Ny147 := Aside0.mk hy147
                   clear hy147
                   have H' := Aside0.mk H
                   clear H
                   have p126 : 0 ≤ (x73_3 : Int) := of_decide_eq_true (by first | (with_reducible assumption) | assumption)
                   have q126 : x73_3 < (l0.length : Int) := of_decide_eq_true (by first | (with_reducible assumption) | assumption)
                   obtain ⟨ad126, e126, hx126_0, hx126_1, hx126_2, hx126_3⟩ := at_T39 HR0.out x73_3 p126 q126
                   (try rw [← Nbq61.out] at hx126_2)
                   cases e126
                   replace hx126_0 := cl_ HB.out hx126_0
                   replace hx126_1 := cl_ HB.out hx126_1
                   replace hx126_2 := cl_ HB.out hx126_2
                   replace hx126_3 := cl_ HB.out hx126_3
                   replace p126 := eq_true p126
                   replace q126 := eq_true q126
                   try go_wp2_with (first | ((with_reducible refine gate_dst (N := 9) rfl ?_); (try (refine gate_guard (by rfl) ?_; dsimp only)); refine box_event ?hg (N := 9) ?hd (cs := #[.string (⟨#[]⟩ : ByteArray), .int .i64 0, .bool false, .string (⟨#[]⟩ : ByteArray)]) (t := 39) ?hr ?_; (case hd => rfl); (case hg => rfl); (case hr => first | (go_simp; done) | (go_simp; rfl)); intro gb127 hg w64 hbox hb; have n0_ := Aside0.mk (Kd.R_below (by (with_reducible repeat (first | apply Kd.R_alloc | apply Kd.R_drewN | apply Kd.R_drew)); exact HO_6.out) hb); have n1_ := Aside0.mk (below_step (by repeat (first | (with_reducible first | exact HB.out | apply below_alloc | apply pw_below_drewN | apply below_drew1) | exact HB.out)) hb); have n2_ := Aside0.mk (hbox); have n3_ := Aside0.mk ((by rw [hg]; exact (below_size (by repeat (first | (with_reducible first | exact HB.out | apply below_alloc | apply pw_below_drewN | apply below_drew1) | exact HB.out))) : w.heap.size ≤ gb127)); have n4_ := Aside0.mk ((by rw [hg]; exact (below_size (by repeat (first | (with_reducible first | exact HB.out | apply below_alloc | apply pw_below_drewN | apply below_drew1) | exact HB.out))) : w.heap.size ≤ gb127)); clear HO_6; clear HB; have HO_6 := n0_; have HB := n1_; have BK127 := n2_; have GW127 := n3_; have GE127 := n4_; clear n0_ n1_ n2_ n3_ n4_; clear hb hbox hg; have hcz65_0 : w64.cell? ⟨gb127, 0, none⟩ = some (.string (⟨#[]⟩ : ByteArray)) := (blk_cell BK127.out 0).trans rfl; have hcz65_1 : w64.cell? ⟨gb127, 1, none⟩ = some (.int .i64 0) := (blk_cell BK127.out 1).trans rfl; have hcz65_2 : w64.cell? ⟨gb127, 2, none⟩ = some (.bool false) := (blk_cell BK127.out 2).trans rfl; have hcz65_3 : w64.cell? ⟨gb127, 3, none⟩ = some (.string (⟨#[]⟩ : ByteArray)) := (blk_cell BK127.out 3).trans rfl; have hfz65_0 := blk_frozen BK127.out 0; have hfz65_1 := blk_frozen BK127.out 1; have hfz65_2 := blk_frozen BK127.out 2; have hfz65_3 := blk_frozen BK127.out 3) | ((with_reducible refine gate_callee (f := 17) rfl ?_); refine goesL_ (some 80) rfl rfl Try.func17 (by kernel_rfl) rfl #[.string x7_3, .string ((rd_T39 l0 x73_3).f0)] rfl (by (try simp only [List.map_toArray, List.map_cons, List.map_nil]); first | done | rfl | (simp only [List.length_drop, List.length_take]; rfl)) ?_; (with_reducible refine (block_Common.calls k3 x7_3 ((rd_T39 l0 x73_3).f0) t128 _ A52.out).mono ?_); rintro e w66 ⟨rfl, hb⟩; refine ⟨_, rfl, ?_⟩; have n0_ := Aside0.mk (Kd.R_below (by (with_reducible repeat (first | apply Kd.R_alloc | apply Kd.R_drewN | apply Kd.R_drew)); exact (Kd.R_mono (Kd.R_far (p := ⟨gb127, 3, none⟩) (Kd.R_far (p := ⟨gb127, 2, none⟩) (Kd.R_far (p := ⟨gb127, 1, none⟩) (Kd.R_far (p := ⟨gb127, 0, none⟩) (Kd.R_types HO_6.out BK127.out (by decide)) (fun _ hk => hk.2) (.string ((rd_T39 l0 x73_3).f0))) (fun _ hk => hk.2) (.int .i64 ((rd_T39 l0 x73_3).f1))) (fun _ hk => hk.2) (.bool true)) (fun _ hk => hk.2) (.string ((rd_T39 l0 x73_3).f3))) (fun _ h_ => h_.1))) hb); have n1_ := Aside0.mk (blk_below (g := gb127) (o := .cells #[.string ((rd_T39 l0 x73_3).f0), .int .i64 ((rd_T39 l0 x73_3).f1), .bool true, .string ((rd_T39 l0 x73_3).f3)] 39 (0, 0)) (by (with_reducible repeat (first | refine blk_drewN ?_ _ | refine blk_drew ?_ | refine blk_alloc ?_ _)); refine blk_put (cs := #[.string ((rd_T39 l0 x73_3).f0), .int .i64 ((rd_T39 l0 x73_3).f1), .bool true, .string (⟨#[]⟩ : ByteArray)]) ?_ 3 _ rfl; (with_reducible repeat (first | refine blk_drewN ?_ _ | refine blk_drew ?_ | refine blk_alloc ?_ _)); refine blk_put (cs := #[.string ((rd_T39 l0 x73_3).f0), .int .i64 ((rd_T39 l0 x73_3).f1), .bool false, .string (⟨#[]⟩ : ByteArray)]) ?_ 2 _ rfl; (with_reducible repeat (first | refine blk_drewN ?_ _ | refine blk_drew ?_ | refine blk_alloc ?_ _)); refine blk_put (cs := #[.string ((rd_T39 l0 x73_3).f0), .int .i64 0, .bool false, .string (⟨#[]⟩ : ByteArray)]) ?_ 1 _ rfl; (with_reducible repeat (first | refine blk_drewN ?_ _ | refine blk_drew ?_ | refine blk_alloc ?_ _)); refine blk_put (cs := #[.string (⟨#[]⟩ : ByteArray), .int .i64 0, .bool false, .string (⟨#[]⟩ : ByteArray)]) ?_ 0 _ rfl; (with_reducible repeat (first | refine blk_drewN ?_ _ | refine blk_drew ?_ | refine blk_alloc ?_ _)); exact BK127.out) hb); have n2_ := Aside0.mk (below_step (by repeat (first | (with_reducible first | exact HB.out | apply below_alloc | apply pw_below_drewN | apply below_drew1 | refine below_set ?_ GE127.out) | exact HB.out)) hb); clear HO_6; clear BK127; clear HB; have HO_6 := n0_; have BK127 := n1_; have HB := n2_; clear n0_ n1_ n2_; (try clear hb); (try clear hb2); (try clear hk); (try clear hi)))
                   have n0_ := Aside0.mk (Kd.R_drew HO_6.out)
                   have n1_ := Aside0.mk (blk_drew BK127.out)
                   have n2_ := Aside0.mk (below_drew1 HB.out)
                   clear HO_6
                   clear BK127
                   clear HB
                   have HO_6 := n0_
                   have BK127 := n1_
                   have HB := n2_
                   clear n0_ n1_ n2_
                   refine start_ (n := 12) (S := fun w' => w'.cell? ⟨gb127, 0, none⟩ = some (.string ((rd_T39 l0 x73_3).f0)) ∧ w'.cell? ⟨gb127, 1, none⟩ = some (.int .i64 ((rd_T39 l0 x73_3).f1)) ∧ w'.cell? ⟨gb127, 2, none⟩ = some (.bool true) ∧ w'.cell? ⟨gb127, 3, none⟩ = some (.string ((rd_T39 l0 x73_3).f3))) (ds := []) (b_ 12 0) (by kernel_rfl) rfl rfl ⟨(blk_cell BK127.out 0).trans rfl, (blk_cell BK127.out 1).trans rfl, (blk_cell BK127.out 2).trans rfl, (blk_cell BK127.out 3).trans rfl⟩ (fun hHeld => ?_); refine with_tabW block_Write.tab15 block_Write.bits15 (fun HT_ HW_ => ?_)
                   generalize w66.drew = w67 at HO_6 BK127 HB hHeld ⊢
                   refine pA_ 0 81 ?_ (b_ 12 1) (any_of HT_.out (by kernel_rfl)) rfl rfl (fun _ _ _ h => h) (by rfl) ?_ ?_ ?_ ?_
                   rotate_left
                   ·
                    intro w'
                    go_simp
                    with_reducible rfl
                   rotate_left
                   ·
                    simp only [Act.put, sa_, s0_, s1_, i64_w, i32_w]
                    rfl
                   refine pA_ 1 82 ?_ (b_ 12 3) (any_of HT_.out (by kernel_rfl)) rfl rfl (fun _ _ _ h => h) (by rfl) ?_ ?_ ?_ ?_
                   rotate_left
                   ·
                    intro w'
                    go_simp
                    with_reducible rfl
                   rotate_left
                   ·
                    simp only [Act.put, sa_, s0_, s1_, i64_w, i32_w]
                    rfl
                   refine pA_ 2 83 ?_ (b_ 12 7) (any_of HT_.out (by kernel_rfl)) rfl rfl (fun _ _ _ h => h) (by rfl) ?_ ?_ ?_ ?_
                   rotate_left
                   ·
                    intro w'
                    go_simp
                    with_reducible rfl
                   rotate_left
                   ·
                    simp only [Act.put, sa_, s0_, s1_, i64_w, i32_w]
                    rfl
                   refine pA_ 5 86 ?_ (b_ 12 39) (any_of HT_.out (by kernel_rfl)) rfl rfl (fun _ _ _ h => h) (by rfl) ?_ ?_ ?_ ?_
                   rotate_left
                   ·
                    intro w'
                    go_simp
                    with_reducible rfl
                   rotate_left
                   ·
                    simp only [Act.put, sa_, s0_, s1_, i64_w, i32_w]
                    rfl
                   refine pA_ 7 88 ?_ (b_ 12 167) (any_of HT_.out (by kernel_rfl)) rfl rfl (fun _ _ _ h => h) (by rfl) ?_ ?_ ?_ ?_
                   rotate_left
                   ·
                    intro w'
                    go_simp
                    with_reducible rfl
                   rotate_left
                   ·
                    simp only [Act.put, sa_, s0_, s1_, i64_w, i32_w]
                    rfl
                   refine tA_ 6 87 ?_ (b_ 12 231) (take_ofW HT_.out HW_.out (by kernel_rfl)) rfl rfl (fun _ _ _ h => h) (by rfl) ?_ hHeld ?_ ?_ ?_
                   rotate_left
                   ·
                    rintro w' ⟨s0, s1, s2, s3⟩
                    go_simp
                    with_reducible rfl
                   rotate_left
                   ·
                    simp only [Act.put, sa_, s0_, s1_, i64_w, i32_w]
                    rfl
                   refine pA_ 8 89 ?_ (b_ 12 487) (any_of HT_.out (by kernel_rfl)) rfl rfl (fun _ _ _ h => h) (by rfl) ?_ ?_ ?_ ?_
                   rotate_left
                   ·
                    intro w'
                    go_simp
                    with_reducible rfl
                   rotate_left
                   ·
                    simp only [Act.put, sa_, s0_, s1_, i64_w, i32_w]
                    rfl
                   refine one_ (i := 3) (N := some 84) (b_ 12 495) rfl rfl (one_of HT_.out (by kernel_rfl)) (by decide) (fun K hK => ?_)
                   refine goes_ Try.func21 (by kernel_rfl) rfl #[.int .u64 (IntKind.u64.wrap (t128))] (by rfl) rfl rfl (by (try simp only [List.map_toArray, List.map_cons, List.map_nil]); first | done | rfl | (simp only [List.length_drop, List.length_take]; rfl)) ?_
                   with_reducible refine (code_Small.calls k3 (IntKind.u64.wrap (t128)) t129 _ A53.out).mono ?_
                   rintro e w68 ⟨v130, rfl, ho0, hb⟩
                   refine ⟨_, rfl, ?_⟩
                   have n0_ := Aside0.mk (Kd.R_elder' (by (with_reducible repeat (first | apply Kd.R_alloc | apply Kd.R_drewN | apply Kd.R_drew)); exact HO_6.out) (Kd.R_base ho0) hb)
                   have n1_ := Aside0.mk (Kd.R_lower (Kd.R_new' ho0 (Kd.R_lt (by (with_reducible repeat (first | apply Kd.R_alloc | apply Kd.R_drewN | apply Kd.R_drew)); exact HO_6.out))) (below_size (by repeat (first | (with_reducible first | exact HB.out | apply below_alloc | apply pw_below_drewN | apply below_drew1 | refine below_set ?_ GE127.out) | exact HB.out))))
                   have n2_ := Aside0.mk (blk_below (g := gb127) (o := .cells #[.string ((rd_T39 l0 x73_3).f0), .int .i64 ((rd_T39 l0 x73_3).f1), .bool true, .string ((rd_T39 l0 x73_3).f3)] 39 (0, 0)) (by (with_reducible repeat (first | refine blk_drewN ?_ _ | refine blk_drew ?_ | refine blk_alloc ?_ _)); exact BK127.out) hb)
                   have n3_ := Aside0.mk (below_step (by repeat (first | (with_reducible first | exact HB.out | apply below_alloc | apply pw_below_drewN | apply below_drew1 | refine below_set ?_ GE127.out) | exact HB.out)) hb)
                   clear HO_6
                   clear BK127
                   clear HB
                   have HO_6 := n0_
                   have HO131 := n1_
                   have BK127 := n2_
                   have HB := n3_
                   clear n0_ n1_ n2_ n3_
                   (try clear hb)
                   (try clear hb2)
                   (try clear hk)
                   (try clear hi)
                   (try clear ho0)
                   obtain ⟨Ao70, co70, eo70⟩ := Kd.R_slice HO131.out
                   (first | subst eo70 | (injection eo70 with f1_ f2_ f3_; have f4_ := f1_.symm; have f5_ := f3_.symm; clear f1_ f2_ f3_; subst f4_; subst f5_))
                   refine hK.out _ _ ⟨(blk_cell BK127.out 0).trans rfl, (blk_cell BK127.out 1).trans rfl, (blk_cell BK127.out 2).trans rfl, (blk_cell BK127.out 3).trans rfl⟩ (fun hHeld => ?_)
                   clear hK K
                   refine norm_ (a' := ?_) ?_ ?_
                   rotate_left
                   ·
                    show Act.put _ (some 84) _ = _
                    simp only [Act.put, sa_, s0_, s1_, i64_w, i32_w]
                    rfl
                   refine one_ (i := 4) (N := some 85) (b_ 12 511) rfl rfl (one_of HT_.out (by kernel_rfl)) (by decide) (fun K hK => ?_)
                   refine Kd.R_append_rows_step (Kd.int .u8) (w0 := w) w.heap.size (by rfl) (.tmp 81) (.tmp 84) 23 5 (.int .u8 0) 1 rfl Try.underlying23 info5 rfl (by decide) (by omega) u6 x6_3 t129 _ _ _ (fun k_ => some k_ ≠ (.slice Ao70 t129.length co70 : Value).ownBlock) (fun _ => False) rfl rfl ?aO ?aR (fun _ _ h => h) (fun _ h => h.elim) ?aF ?aB ?aS ?aL ?_
                   (case aR => repeat (first | exact (Kd.R_reads' HO131.out).2.2 | (with_reducible refine Kd.C_alloc ?_ _) | (with_reducible refine Kd.C_drewN ?_ _) | (with_reducible refine Kd.C_drew ?_)))
                   (case aB => exact (by repeat (first | (with_reducible first | exact HB.out | apply below_alloc | apply pw_below_drewN | apply below_drew1 | refine below_set ?_ GE127.out) | exact HB.out)))
                   (case aF => exact (fun k_ hk => Kd.fresh' (Kd.R_lt (by (with_reducible repeat (first | apply Kd.R_alloc | apply Kd.R_drewN | apply Kd.R_drew)); exact HO131.out)) k_ hk))
                   (case aO => exact (by (with_reducible repeat (first | apply Kd.R_alloc | apply Kd.R_drewN | apply Kd.R_drew)); exact Kd.R_mono HO_6.out (fun _ hk => hk.2)))
                   (case aS => exact (below_size (by repeat (first | (with_reducible first | exact HB.out | apply below_alloc | apply pw_below_drewN | apply below_drew1 | refine below_set ?_ GE127.out) | exact HB.out))))
                   (case aL => have := LMc54.out; omega)
                   intro v133 w69 ho hb hg hat
                   rw [← Ny132.out] at ho
                   have n0_ := Aside0.mk (blk_grown (g := gb127) (o := .cells #[.string ((rd_T39 l0 x73_3).f0), .int .i64 ((rd_T39 l0 x73_3).f1), .bool true, .string ((rd_T39 l0 x73_3).f3)] 39 (0, 0)) (by (with_reducible repeat (first | refine blk_drewN ?_ _ | refine blk_drew ?_ | refine blk_alloc ?_ _)); exact BK127.out) hg (Kd.R_ne HO_6.out BK127.out (by decide)))
                   have n1_ := Aside0.mk (Kd.R_after (ok := (fun _ => True)) (by (with_reducible repeat (first | apply Kd.R_alloc | apply Kd.R_drewN | apply Kd.R_drew)); exact HO131.out) hg hat)
                   have n2_ := Aside0.mk (hb)
                   have n3_ := Aside0.mk (ho)
                   clear BK127
                   clear HO131
                   clear HB
                   clear HO_6
                   have BK127 := n0_
                   have HO131 := n1_
                   have HB := n2_
                   have HO134 := n3_
                   clear n0_ n1_ n2_ n3_
                   clear ho hb hg hat
                   refine hK.out _ _ ⟨(blk_cell BK127.out 0).trans rfl, (blk_cell BK127.out 1).trans rfl, (blk_cell BK127.out 2).trans rfl, (blk_cell BK127.out 3).trans rfl⟩ (fun hHeld => ?_)
                   clear hK K
                   refine norm_ (a' := ?_) ?_ ?_
                   rotate_left
                   ·
                    show Act.put _ (some 85) _ = _
                    simp only [Act.put, sa_, s0_, s1_, i64_w, i32_w]
                    rfl
                   refine one_ (i := 9) (N := some 90) (b_ 12 1023) rfl rfl (one_of HT_.out (by kernel_rfl)) (by decide) (fun K hK => ?_)
                   refine goes_ Try.func22 (by kernel_rfl) rfl #[.string (((rd_T39 l0 x73_3).f0).extract (t128 : Int).toNat ((rd_T39 l0 x73_3).f0).size)] (by rfl) rfl rfl (by (try simp only [List.map_toArray, List.map_cons, List.map_nil]); first | done | rfl | (simp only [List.length_drop, List.length_take]; rfl)) ?_
                   with_reducible refine (code_Text.calls k3 (((rd_T39 l0 x73_3).f0).extract (t128 : Int).toNat ((rd_T39 l0 x73_3).f0).size) t135 _ A57.out).mono ?_
                   rintro e w71 ⟨v136, rfl, ho0, hb⟩
                   refine ⟨_, rfl, ?_⟩
                   obtain ⟨HO131, HO134, HO137, BK127, HB⟩ := And.intro (Aside0.mk (Kd.R_elder' (by (with_reducible repeat (first | apply Kd.R_alloc | apply Kd.R_drewN | apply Kd.R_drew)); exact HO131.out) (Kd.R_base ho0) hb)) (And.intro (Aside0.mk (Kd.R_elder' (by (with_reducible repeat (first | apply Kd.R_alloc | apply Kd.R_drewN | apply Kd.R_drew)); exact HO134.out) (Kd.R_base ho0) hb)) (And.intro (Aside0.mk (Kd.R_lower (Kd.R_new' (Kd.R_new' ho0 (Kd.R_lt (by (with_reducible repeat (first | apply Kd.R_alloc | apply Kd.R_drewN | apply Kd.R_drew)); exact HO131.out))) (Kd.R_lt (by (with_reducible repeat (first | apply Kd.R_alloc | apply Kd.R_drewN | apply Kd.R_drew)); exact HO134.out))) (below_size (by repeat (first | (with_reducible first | exact HB.out | apply below_alloc | apply pw_below_drewN | apply below_drew1 | refine below_set ?_ GE127.out) | exact HB.out))))) (And.intro (Aside0.mk (blk_below (g := gb127) (o := .cells #[.string ((rd_T39 l0 x73_3).f0), .int .i64 ((rd_T39 l0 x73_3).f1), .bool true, .string ((rd_T39 l0 x73_3).f3)] 39 (0, 0)) (by (with_reducible repeat (first | refine blk_drewN ?_ _ | refine blk_drew ?_ | refine blk_alloc ?_ _)); exact BK127.out) hb)) (Aside0.mk (below_step (by repeat (first | (with_reducible first | exact HB.out | apply below_alloc | apply pw_below_drewN | apply below_drew1 | refine below_set ?_ GE127.out) | exact HB.out)) hb)))))
                   (try clear hb)
                   (try clear hb2)
                   (try clear hk)
                   (try clear hi)
                   (try clear ho0)
                   obtain ⟨Ao73, co73, eo73⟩ := Kd.R_slice HO137.out
                   (first | subst eo73 | (injection eo73 with f1_ f2_ f3_; have f4_ := f1_.symm; have f5_ := f3_.symm; clear f1_ f2_ f3_; subst f4_; subst f5_))
                   refine hK.out _ _ ⟨(blk_cell BK127.out 0).trans rfl, (blk_cell BK127.out 1).trans rfl, (blk_cell BK127.out 2).trans rfl, (blk_cell BK127.out 3).trans rfl⟩ (fun hHeld => ?_)
                   clear hK K
                   refine norm_ (a' := ?_) ?_ ?_
                   rotate_left
                   ·
                    show Act.put _ (some 90) _ = _
                    simp only [Act.put, sa_, s0_, s1_, i64_w, i32_w]
                    rfl
                   refine one_ (i := 10) (N := some 91) (b_ 12 2047) rfl rfl (one_of HT_.out (by kernel_rfl)) (by decide) (fun K hK => ?_)
                   refine Kd.R_append_rows_step (Kd.int .u8) (w0 := w) w.heap.size (by rfl) (.tmp 85) (.tmp 90) 23 5 (.int .u8 0) 1 rfl Try.underlying23 info5 rfl (by decide) (by omega) v133 y132 t135 _ _ _ (fun k_ => some k_ ≠ (.slice Ao70 t129.length co70 : Value).ownBlock ∧ some k_ ≠ (.slice Ao73 t135.length co73 : Value).ownBlock) (fun _ => False) rfl rfl ?aO ?aR (fun _ _ h => h) (fun _ h => h.elim) ?aF ?aB ?aS ?aL ?_
                   (case aR => repeat (first | exact (Kd.R_reads' HO137.out).2.2 | (with_reducible refine Kd.C_alloc ?_ _) | (with_reducible refine Kd.C_drewN ?_ _) | (with_reducible refine Kd.C_drew ?_)))
                   (case aB => exact (by repeat (first | (with_reducible first | exact HB.out | apply below_alloc | apply pw_below_drewN | apply below_drew1 | refine below_set ?_ GE127.out) | exact HB.out)))
                   (case aF => exact (fun k_ hk => ⟨Kd.fresh' (Kd.R_lt (by (with_reducible repeat (first | apply Kd.R_alloc | apply Kd.R_drewN | apply Kd.R_drew)); exact HO131.out)) k_ hk, Kd.fresh' (Kd.R_lt (by (with_reducible repeat (first | apply Kd.R_alloc | apply Kd.R_drewN | apply Kd.R_drew)); exact HO137.out)) k_ hk⟩))
                   (case aO => exact (by (with_reducible repeat (first | apply Kd.R_alloc | apply Kd.R_drewN | apply Kd.R_drew)); exact HO134.out))
                   (case aS => exact (below_size (by repeat (first | (with_reducible first | exact HB.out | apply below_alloc | apply pw_below_drewN | apply below_drew1 | refine below_set ?_ GE127.out) | exact HB.out))))
                   (case aL => have := LMc58.out; omega)
                   intro v139 w72 ho hb hg hat
                   rw [← Ny138.out] at ho
                   have n0_ := Aside0.mk (blk_grown (g := gb127) (o := .cells #[.string ((rd_T39 l0 x73_3).f0), .int .i64 ((rd_T39 l0 x73_3).f1), .bool true, .string ((rd_T39 l0 x73_3).f3)] 39 (0, 0)) (by (with_reducible repeat (first | refine blk_drewN ?_ _ | refine blk_drew ?_ | refine blk_alloc ?_ _)); exact BK127.out) hg (Kd.R_ne HO134.out BK127.out (by decide)))
                   have n1_ := Aside0.mk (Kd.R_after (ok := (fun k_ => some k_ ≠ (.slice Ao73 t135.length co73 : Value).ownBlock)) (by (with_reducible repeat (first | apply Kd.R_alloc | apply Kd.R_drewN | apply Kd.R_drew)); exact Kd.R_mono HO131.out (fun _ hk => ⟨hk.2, hk.1.2⟩)) hg hat)
                   have n2_ := Aside0.mk (Kd.R_after (ok := (fun k_ => some k_ ≠ (.slice Ao70 t129.length co70 : Value).ownBlock)) (by (with_reducible repeat (first | apply Kd.R_alloc | apply Kd.R_drewN | apply Kd.R_drew)); exact Kd.R_mono HO137.out (fun _ hk => ⟨hk.1.2, hk.2⟩)) hg hat)
                   have n3_ := Aside0.mk (hb)
                   have n4_ := Aside0.mk (ho)
                   clear BK127
                   clear HO131
                   clear HO137
                   clear HB
                   clear HO134
                   have BK127 := n0_
                   have HO131 := n1_
                   have HO137 := n2_
                   have HB := n3_
                   have HO140 := n4_
                   clear n0_ n1_ n2_ n3_ n4_
                   clear ho hb hg hat
                   refine hK.out _ _ ⟨(blk_cell BK127.out 0).trans rfl, (blk_cell BK127.out 1).trans rfl, (blk_cell BK127.out 2).trans rfl, (blk_cell BK127.out 3).trans rfl⟩ (fun hHeld => ?_)
                   clear hK K
                   refine norm_ (a' := ?_) ?_ ?_
                   rotate_left
                   ·
                    show Act.put _ (some 91) _ = _
                    simp only [Act.put, sa_, s0_, s1_, i64_w, i32_w]
                    rfl
                   refine pA_ 11 6 ?_ (b_ 12 4095) (any_of HT_.out (by kernel_rfl)) rfl rfl (fun _ _ _ h => h) (by rfl) ?_ ?_ ?_ ?_
                   rotate_left
                   ·
                    intro w'
                    go_simp
                    with_reducible rfl
                   rotate_left
                   ·
                    simp only [Act.put, sa_, s0_, s1_, i64_w, i32_w]
                    rfl
                   refine done_ (done_of HT_.out (by kernel_rfl)) ?_
                   have hcz74_0 : w72.cell? ⟨gb127, 0, none⟩ = some (.string ((rd_T39 l0 x73_3).f0)) := (blk_cell BK127.out 0).trans rfl
                   have hcz74_1 : w72.cell? ⟨gb127, 1, none⟩ = some (.int .i64 ((rd_T39 l0 x73_3).f1)) := (blk_cell BK127.out 1).trans rfl
                   have hcz74_2 : w72.cell? ⟨gb127, 2, none⟩ = some (.bool true) := (blk_cell BK127.out 2).trans rfl
                   have hcz74_3 : w72.cell? ⟨gb127, 3, none⟩ = some (.string ((rd_T39 l0 x73_3).f3)) := (blk_cell BK127.out 3).trans rfl
                   have hfz74_0 := blk_frozen BK127.out 0
                   have hfz74_1 := blk_frozen BK127.out 1
                   have hfz74_2 := blk_frozen BK127.out 2
                   have hfz74_3 := blk_frozen BK127.out 3
                   try go_wp2_with (first | ((with_reducible refine gate_callee (f := 21) rfl ?_); refine goesL_ (some 96) rfl rfl Try.func21 (by kernel_rfl) rfl #[.int .u64 (IntKind.u64.wrap ((rd_T39 l0 x73_3).f1))] rfl (by (try simp only [List.map_toArray, List.map_cons, List.map_nil]); first | done | rfl | (simp only [List.length_drop, List.length_take]; rfl)) ?_; (with_reducible refine (code_Small.calls k3 (IntKind.u64.wrap ((rd_T39 l0 x73_3).f1)) t141 _ A59.out).mono ?_); rintro e w75 ⟨v142, rfl, ho0, hb⟩; refine ⟨_, rfl, ?_⟩; have n0_ := Aside0.mk (Kd.R_elder' (by (with_reducible repeat (first | apply Kd.R_alloc | apply Kd.R_drewN | apply Kd.R_drew)); exact HO131.out) (Kd.R_base ho0) hb); have n1_ := Aside0.mk (Kd.R_elder' (by (with_reducible repeat (first | apply Kd.R_alloc | apply Kd.R_drewN | apply Kd.R_drew)); exact HO137.out) (Kd.R_base ho0) hb); have n2_ := Aside0.mk (Kd.R_elder' (by (with_reducible repeat (first | apply Kd.R_alloc | apply Kd.R_drewN | apply Kd.R_drew)); exact HO140.out) (Kd.R_base ho0) hb); have n3_ := Aside0.mk (Kd.R_lower (Kd.R_new' (Kd.R_new' (Kd.R_new' ho0 (Kd.R_lt (by (with_reducible repeat (first | apply Kd.R_alloc | apply Kd.R_drewN | apply Kd.R_drew)); exact HO131.out))) (Kd.R_lt (by (with_reducible repeat (first | apply Kd.R_alloc | apply Kd.R_drewN | apply Kd.R_drew)); exact HO137.out))) (Kd.R_lt (by (with_reducible repeat (first | apply Kd.R_alloc | apply Kd.R_drewN | apply Kd.R_drew)); exact HO140.out))) (below_size (by repeat (first | (with_reducible first | exact HB.out | apply below_alloc | apply pw_below_drewN | apply below_drew1 | refine below_set ?_ GE127.out) | exact HB.out)))); have n4_ := Aside0.mk (blk_below (g := gb127) (o := .cells #[.string ((rd_T39 l0 x73_3).f0), .int .i64 ((rd_T39 l0 x73_3).f1), .bool true, .string ((rd_T39 l0 x73_3).f3)] 39 (0, 0)) (by (with_reducible repeat (first | refine blk_drewN ?_ _ | refine blk_drew ?_ | refine blk_alloc ?_ _)); exact BK127.out) hb); have n5_ := Aside0.mk (below_step (by repeat (first | (with_reducible first | exact HB.out | apply below_alloc | apply pw_below_drewN | apply below_drew1 | refine below_set ?_ GE127.out) | exact HB.out)) hb); clear HO131; clear HO137; clear HO140; clear BK127; clear HB; have HO131 := n0_; have HO137 := n1_; have HO140 := n2_; have HO143 := n3_; have BK127 := n4_; have HB := n5_; clear n0_ n1_ n2_ n3_ n4_ n5_; (try clear hb); (try clear hb2); (try clear hk); (try clear hi); (try clear ho0); obtain ⟨Ao77, co77, eo77⟩ := Kd.R_slice HO143.out; subst eo77) | ((with_reducible refine gate_builtin (b := .append) (xs := #[.tmp 92, .tmp 96]) rfl ?_); (try (refine gate_guard (by rfl) ?_; dsimp only)); at_builtin; refine Kd.R_append_rows (Kd.int .u8) (w0 := w) w.heap.size rfl (.tmp 92) (.tmp 96) 23 5 (.int .u8 0) 1 rfl Try.underlying23 info5 rfl (by decide) (by omega) v139 y138 t141 _ _ _ (fun k_ => some k_ ≠ (.slice Ao70 t129.length co70 : Value).ownBlock ∧ some k_ ≠ (.slice Ao73 t135.length co73 : Value).ownBlock ∧ some k_ ≠ (.slice Ao77 t141.length co77 : Value).ownBlock) (fun _ => False) rfl rfl ?aO ?aR (fun _ _ h => h) (fun _ h => h.elim) ?aF ?aB ?aS ?aL ?_; (case aR => repeat (first | exact (Kd.R_reads' HO143.out).2.2 | (with_reducible refine Kd.C_alloc ?_ _) | (with_reducible refine Kd.C_drewN ?_ _) | (with_reducible refine Kd.C_drew ?_))); (case aB => exact (by repeat (first | (with_reducible first | exact HB.out | apply below_alloc | apply pw_below_drewN | apply below_drew1 | refine below_set ?_ GE127.out) | exact HB.out))); (case aF => exact (fun k_ hk => ⟨Kd.fresh' (Kd.R_lt (by (with_reducible repeat (first | apply Kd.R_alloc | apply Kd.R_drewN | apply Kd.R_drew)); exact HO131.out)) k_ hk, Kd.fresh' (Kd.R_lt (by (with_reducible repeat (first | apply Kd.R_alloc | apply Kd.R_drewN | apply Kd.R_drew)); exact HO137.out)) k_ hk, Kd.fresh' (Kd.R_lt (by (with_reducible repeat (first | apply Kd.R_alloc | apply Kd.R_drewN | apply Kd.R_drew)); exact HO143.out)) k_ hk⟩)); (case aO => exact (by (with_reducible repeat (first | apply Kd.R_alloc | apply Kd.R_drewN | apply Kd.R_drew)); exact Kd.R_mono HO140.out (fun _ hk => ⟨hk.1.1, ⟨hk.1.2, hk.2⟩⟩))); (case aS => exact (below_size (by repeat (first | (with_reducible first | exact HB.out | apply below_alloc | apply pw_below_drewN | apply below_drew1 | refine below_set ?_ GE127.out) | exact HB.out)))); (case aL => have := LMc60.out; omega); intro v145 w76 ho hb hg hat; rw [← Ny144.out] at ho; have n0_ := Aside0.mk (blk_grown (g := gb127) (o := .cells #[.string ((rd_T39 l0 x73_3).f0), .int .i64 ((rd_T39 l0 x73_3).f1), .bool true, .string ((rd_T39 l0 x73_3).f3)] 39 (0, 0)) (by (with_reducible repeat (first | refine blk_drewN ?_ _ | refine blk_drew ?_ | refine blk_alloc ?_ _)); exact BK127.out) hg (Kd.R_ne HO140.out BK127.out (by decide))); have n1_ := Aside0.mk (Kd.R_after (ok := (fun k_ => some k_ ≠ (.slice Ao73 t135.length co73 : Value).ownBlock ∧ some k_ ≠ (.slice Ao77 t141.length co77 : Value).ownBlock)) (by (with_reducible repeat (first | apply Kd.R_alloc | apply Kd.R_drewN | apply Kd.R_drew)); exact Kd.R_mono HO131.out (fun _ hk => ⟨⟨hk.1.1, hk.2⟩, hk.1.2⟩)) hg hat); have n2_ := Aside0.mk (Kd.R_after (ok := (fun k_ => some k_ ≠ (.slice Ao70 t129.length co70 : Value).ownBlock ∧ some k_ ≠ (.slice Ao77 t141.length co77 : Value).ownBlock)) (by (with_reducible repeat (first | apply Kd.R_alloc | apply Kd.R_drewN | apply Kd.R_drew)); exact Kd.R_mono HO137.out (fun _ hk => ⟨⟨hk.1.1, hk.2⟩, hk.1.2⟩)) hg hat); have n3_ := Aside0.mk (Kd.R_after (ok := (fun k_ => some k_ ≠ (.slice Ao70 t129.length co70 : Value).ownBlock ∧ some k_ ≠ (.slice Ao73 t135.length co73 : Value).ownBlock)) (by (with_reducible repeat (first | apply Kd.R_alloc | apply Kd.R_drewN | apply Kd.R_drew)); exact Kd.R_mono HO143.out (fun _ hk => ⟨⟨hk.1.1.2, hk.1.2⟩, hk.2⟩)) hg hat); have n4_ := Aside0.mk (hb); have n5_ := Aside0.mk (ho); clear BK127; clear HO131; clear HO137; clear HO143; clear HB; clear HO140; have BK127 := n0_; have HO131 := n1_; have HO137 := n2_; have HO143 := n3_; have HB := n4_; have HO146 := n5_; clear n0_ n1_ n2_ n3_ n4_ n5_; clear ho hb hg hat; have hcz78_0 : w76.cell? ⟨gb127, 0, none⟩ = some (.string ((rd_T39 l0 x73_3).f0)) := (blk_cell BK127.out 0).trans rfl; have hcz78_1 : w76.cell? ⟨gb127, 1, none⟩ = some (.int .i64 ((rd_T39 l0 x73_3).f1)) := (blk_cell BK127.out 1).trans rfl; have hcz78_2 : w76.cell? ⟨gb127, 2, none⟩ = some (.bool true) := (blk_cell BK127.out 2).trans rfl; have hcz78_3 : w76.cell? ⟨gb127, 3, none⟩ = some (.string ((rd_T39 l0 x73_3).f3)) := (blk_cell BK127.out 3).trans rfl; have hfz78_0 := blk_frozen BK127.out 0; have hfz78_1 := blk_frozen BK127.out 1; have hfz78_2 := blk_frozen BK127.out 2; have hfz78_3 := blk_frozen BK127.out 3) | ((with_reducible refine gate_builtin (b := .append) (xs := #[.tmp 100, .tmp 101]) rfl ?_); (try (refine gate_guard (by rfl) ?_; dsimp only)); at_builtin; refine Kd.R_append (Kd.int .u8) (w0 := w) w.heap.size rfl (.tmp 100) (.tmp 101) 23 5 (.int .u8 0) 1 rfl Try.underlying23 info5 rfl (by decide) (by omega) v145 y144 1 [.int .u8 1] (fun k_ => some k_ ≠ (.slice Ao70 t129.length co70 : Value).ownBlock ∧ some k_ ≠ (.slice Ao73 t135.length co73 : Value).ownBlock ∧ some k_ ≠ (.slice Ao77 t141.length co77 : Value).ownBlock) (fun _ => False) rfl rfl ?aP (fun _ hk => hk.elim) ?aF ?aO ?aB ?aS ?aL ?_; (case aP => exact rfl); (case aB => exact (by repeat (first | (with_reducible first | exact HB.out | apply below_alloc | apply pw_below_drewN | apply below_drew1 | refine below_set ?_ GE127.out) | exact HB.out))); (case aF => exact (fun k_ hk => ⟨Kd.fresh' (Kd.R_lt (by (with_reducible repeat (first | apply Kd.R_alloc | apply Kd.R_drewN | apply Kd.R_drew)); exact HO131.out)) k_ hk, Kd.fresh' (Kd.R_lt (by (with_reducible repeat (first | apply Kd.R_alloc | apply Kd.R_drewN | apply Kd.R_drew)); exact HO137.out)) k_ hk, Kd.fresh' (Kd.R_lt (by (with_reducible repeat (first | apply Kd.R_alloc | apply Kd.R_drewN | apply Kd.R_drew)); exact HO143.out)) k_ hk⟩)); (case aO => exact (by (with_reducible repeat (first | apply Kd.R_alloc | apply Kd.R_drewN | apply Kd.R_drew)); exact HO146.out)); (case aS => exact (below_size (by repeat (first | (with_reducible first | exact HB.out | apply below_alloc | apply pw_below_drewN | apply below_drew1 | refine below_set ?_ GE127.out) | exact HB.out)))); (case aL => have := LMc63.out; omega); intro v148 w79 ho hb hg hat; rw [← Ny147.out] at ho; have n0_ := Aside0.mk (blk_grown (g := gb127) (o := .cells #[.string ((rd_T39 l0 x73_3).f0), .int .i64 ((rd_T39 l0 x73_3).f1), .bool true, .string ((rd_T39 l0 x73_3).f3)] 39 (0, 0)) (by (with_reducible repeat (first | refine blk_drewN ?_ _ | refine blk_drew ?_ | refine blk_alloc ?_ _)); exact BK127.out) hg (Kd.R_ne HO146.out BK127.out (by decide))); have n1_ := Aside0.mk (Kd.R_after (ok := (fun k_ => some k_ ≠ (.slice Ao73 t135.length co73 : Value).ownBlock ∧ some k_ ≠ (.slice Ao77 t141.length co77 : Value).ownBlock)) (by (with_reducible repeat (first | apply Kd.R_alloc | apply Kd.R_drewN | apply Kd.R_drew)); exact HO131.out) hg hat); have n2_ := Aside0.mk (Kd.R_after (ok := (fun k_ => some k_ ≠ (.slice Ao70 t129.length co70 : Value).ownBlock ∧ some k_ ≠ (.slice Ao77 t141.length co77 : Value).ownBlock)) (by (with_reducible repeat (first | apply Kd.R_alloc | apply Kd.R_drewN | apply Kd.R_drew)); exact HO137.out) hg hat); have n3_ := Aside0.mk (Kd.R_after (ok := (fun k_ => some k_ ≠ (.slice Ao70 t129.length co70 : Value).ownBlock ∧ some k_ ≠ (.slice Ao73 t135.length co73 : Value).ownBlock)) (by (with_reducible repeat (first | apply Kd.R_alloc | apply Kd.R_drewN | apply Kd.R_drew)); exact HO143.out) hg hat); have n4_ := Aside0.mk (hb); have n5_ := Aside0.mk (ho); clear BK127; clear HO131; clear HO137; clear HO143; clear HB; clear HO146; have BK127 := n0_; have HO131 := n1_; have HO137 := n2_; have HO143 := n3_; have HB := n4_; have HO149 := n5_; clear n0_ n1_ n2_ n3_ n4_ n5_; clear ho hb hg hat; have hcz80_0 : w79.cell? ⟨gb127, 0, none⟩ = some (.string ((rd_T39 l0 x73_3).f0)) := (blk_cell BK127.out 0).trans rfl; have hcz80_1 : w79.cell? ⟨gb127, 1, none⟩ = some (.int .i64 ((rd_T39 l0 x73_3).f1)) := (blk_cell BK127.out 1).trans rfl; have hcz80_2 : w79.cell? ⟨gb127, 2, none⟩ = some (.bool true) := (blk_cell BK127.out 2).trans rfl; have hcz80_3 : w79.cell? ⟨gb127, 3, none⟩ = some (.string ((rd_T39 l0 x73_3).f3)) := (blk_cell BK127.out 3).trans rfl; have hfz80_0 := blk_frozen BK127.out 0; have hfz80_1 := blk_frozen BK127.out 1; have hfz80_2 := blk_frozen BK127.out 2; have hfz80_3 := blk_frozen BK127.out 3))
                   go_roundg k3
                   case measure => have := HJ1.out; have := HK2.out; have := HK3.out; omega
                   case rel => exact ⟨(y147), ((rd_T39 l0 x73_3).f0), (wrap64 (x73_3 + 1)), (by first | rfl | (simp; done) | (simp [*]; done)), (by first | rfl | (simp; done) | (simp [*]; done)), H', ⟨by have := HJ1.out; have := HK2.out; have := HK3.out; omega⟩, ⟨by (with_reducible repeat (first | apply Kd.R_alloc | apply Kd.R_drewN | apply Kd.R_drew)); exact Kd.R_mono HO149.out (fun _ hk => trivial)⟩, ⟨by repeat (first | (with_reducible first | exact HB.out | apply below_alloc | apply pw_below_drewN | apply below_drew1 | refine below_set ?_ GE127.out) | exact HB.out)⟩⟩
                  ·
                   rw [if_neg c63] at H
                   exact absurd H (by simp)
                 ·
                  replace c62 := Bool.eq_false_iff.mpr c62
                  subst c62
                  have H1 : (if y144.length < 140737488355328 then ((some (y144 ++ [0] : List Int)).bind fun y150 => ((code_Text.f k3 ((rd_T39 l0 x73_3).f3)).bind fun t153 => (if y150.length + t153.length < 140737488355328 then (block_Write.l1 k3 (y150 ++ t153) ((rd_T39 l0 x73_3).f0) l0 (l0.length : Int) (wrap64 (x73_3 + 1))) else (none)))) else (none)) = some (r1, r2) := by rw [if_neg (show ¬ (false = true) by decide)] at H; exact H
                  clear H
                  have H := H1
                  clear H1
                  by_cases c81 : y144.length < 140737488355328
                  ·
                   rw [if_pos c81] at H
                   have LMc81 := Aside0.mk c81
                   clear c81
                   obtain ⟨y150, hy150⟩ : ∃ y_ : List Int, y_ = (y144 ++ [0]) := ⟨_, rfl⟩
                   replace H : ((code_Text.f k3 ((rd_T39 l0 x73_3).f3)).bind fun t153 => (if y150.length + t153.length < 140737488355328 then (block_Write.l1 k3 (y150 ++ t153) ((rd_T39 l0 x73_3).f0) l0 (l0.length : Int) (wrap64 (x73_3 + 1))) else (none))) = some (r1, r2) := by first | (rw [hy150]; with_reducible exact H) | (have H2_ := (Option.bind_some _ _).symm.trans H; rw [hy150]; with_reducible exact H2_) | (have H2_ := (Option.bind_some _ _).symm.trans H; with_reducible exact H2_) | with_reducible exact H | (rw [hy150]; exact H) | exact H
                   have Ny150 := Aside0.mk hy150
                   clear hy150
                   replace H := Option.bind_eq_some_iff.mp H
                   obtain ⟨t153, A820, H⟩ := H
                   replace H : (if y150.length + t153.length < 140737488355328 then (block_Write.l1 k3 (y150 ++ t153) ((rd_T39 l0 x73_3).f0) l0 (l0.length : Int) (wrap64 (x73_3 + 1))) else (none)) = some (r1, r2) := H
                   have A82 := Aside0.mk A820
                   clear A820
                   by_cases c83 : y150.length + t153.length < 140737488355328
                   ·
                    rw [if_pos c83] at H
                    have LMc83 := Aside0.mk c83
                    clear c83
                    obtain ⟨y156, hy156⟩ : ∃ y_ : List Int, y_ = (y150 ++ t153) := ⟨_, rfl⟩
                    replace H : (block_Write.l1 k3 y156 ((rd_T39 l0 x73_3).f0) l0 (l0.length : Int) (wrap64 (x73_3 + 1))) = some (r1, r2) := by first | (rw [hy156]; with_reducible exact H) | (have H2_ := (Option.bind_some _ _).symm.trans H; rw [hy156]; with_reducible exact H2_) | (have H2_ := (Option.bind_some _ _).symm.trans H; with_reducible exact H2_) | with_reducible exact H | (rw [hy156]; exact H) | exact H
                    have Ny156 := Aside0.mk hy156
                    clear hy156
                    have H' := Aside0.mk H
                    clear H
                    have p126 : 0 ≤ (x73_3 : Int) := of_decide_eq_true (by first | (with_reducible assumption) | assumption)
                    have q126 : x73_3 < (l0.length : Int) := of_decide_eq_true (by first | (with_reducible assumption) | assumption)
                    obtain ⟨ad126, e126, hx126_0, hx126_1, hx126_2, hx126_3⟩ := at_T39 HR0.out x73_3 p126 q126
                    (try rw [← Nbq61.out] at hx126_2)
                    cases e126
                    replace hx126_0 := cl_ HB.out hx126_0
                    replace hx126_1 := cl_ HB.out hx126_1
                    replace hx126_2 := cl_ HB.out hx126_2
                    replace hx126_3 := cl_ HB.out hx126_3
                    replace p126 := eq_true p126
                    replace q126 := eq_true q126
                    try go_wp2_with (first | ((with_reducible refine gate_dst (N := 9) rfl ?_); (try (refine gate_guard (by rfl) ?_; dsimp only)); refine box_event ?hg (N := 9) ?hd (cs := #[.string (⟨#[]⟩ : ByteArray), .int .i64 0, .bool false, .string (⟨#[]⟩ : ByteArray)]) (t := 39) ?hr ?_; (case hd => rfl); (case hg => rfl); (case hr => first | (go_simp; done) | (go_simp; rfl)); intro gb127 hg w84 hbox hb; have n0_ := Aside0.mk (Kd.R_below (by (with_reducible repeat (first | apply Kd.R_alloc | apply Kd.R_drewN | apply Kd.R_drew)); exact HO_6.out) hb); have n1_ := Aside0.mk (below_step (by repeat (first | (with_reducible first | exact HB.out | apply below_alloc | apply pw_below_drewN | apply below_drew1) | exact HB.out)) hb); have n2_ := Aside0.mk (hbox); have n3_ := Aside0.mk ((by rw [hg]; exact (below_size (by repeat (first | (with_reducible first | exact HB.out | apply below_alloc | apply pw_below_drewN | apply below_drew1) | exact HB.out))) : w.heap.size ≤ gb127)); have n4_ := Aside0.mk ((by rw [hg]; exact (below_size (by repeat (first | (with_reducible first | exact HB.out | apply below_alloc | apply pw_below_drewN | apply below_drew1) | exact HB.out))) : w.heap.size ≤ gb127)); clear HO_6; clear HB; have HO_6 := n0_; have HB := n1_; have BK127 := n2_; have GW127 := n3_; have GE127 := n4_; clear n0_ n1_ n2_ n3_ n4_; clear hb hbox hg; have hcz85_0 : w84.cell? ⟨gb127, 0, none⟩ = some (.string (⟨#[]⟩ : ByteArray)) := (blk_cell BK127.out 0).trans rfl; have hcz85_1 : w84.cell? ⟨gb127, 1, none⟩ = some (.int .i64 0) := (blk_cell BK127.out 1).trans rfl; have hcz85_2 : w84.cell? ⟨gb127, 2, none⟩ = some (.bool false) := (blk_cell BK127.out 2).trans rfl; have hcz85_3 : w84.cell? ⟨gb127, 3, none⟩ = some (.string (⟨#[]⟩ : ByteArray)) := (blk_cell BK127.out 3).trans rfl; have hfz85_0 := blk_frozen BK127.out 0; have hfz85_1 := blk_frozen BK127.out 1; have hfz85_2 := blk_frozen BK127.out 2; have hfz85_3 := blk_frozen BK127.out 3) | ((with_reducible refine gate_callee (f := 17) rfl ?_); refine goesL_ (some 80) rfl rfl Try.func17 (by kernel_rfl) rfl #[.string x7_3, .string ((rd_T39 l0 x73_3).f0)] rfl (by (try simp only [List.map_toArray, List.map_cons, List.map_nil]); first | done | rfl | (simp only [List.length_drop, List.length_take]; rfl)) ?_; (with_reducible refine (block_Common.calls k3 x7_3 ((rd_T39 l0 x73_3).f0) t128 _ A52.out).mono ?_); rintro e w86 ⟨rfl, hb⟩; refine ⟨_, rfl, ?_⟩; have n0_ := Aside0.mk (Kd.R_below (by (with_reducible repeat (first | apply Kd.R_alloc | apply Kd.R_drewN | apply Kd.R_drew)); exact (Kd.R_mono (Kd.R_far (p := ⟨gb127, 3, none⟩) (Kd.R_far (p := ⟨gb127, 2, none⟩) (Kd.R_far (p := ⟨gb127, 1, none⟩) (Kd.R_far (p := ⟨gb127, 0, none⟩) (Kd.R_types HO_6.out BK127.out (by decide)) (fun _ hk => hk.2) (.string ((rd_T39 l0 x73_3).f0))) (fun _ hk => hk.2) (.int .i64 ((rd_T39 l0 x73_3).f1))) (fun _ hk => hk.2) (.bool false)) (fun _ hk => hk.2) (.string ((rd_T39 l0 x73_3).f3))) (fun _ h_ => h_.1))) hb); have n1_ := Aside0.mk (blk_below (g := gb127) (o := .cells #[.string ((rd_T39 l0 x73_3).f0), .int .i64 ((rd_T39 l0 x73_3).f1), .bool false, .string ((rd_T39 l0 x73_3).f3)] 39 (0, 0)) (by (with_reducible repeat (first | refine blk_drewN ?_ _ | refine blk_drew ?_ | refine blk_alloc ?_ _)); refine blk_put (cs := #[.string ((rd_T39 l0 x73_3).f0), .int .i64 ((rd_T39 l0 x73_3).f1), .bool false, .string (⟨#[]⟩ : ByteArray)]) ?_ 3 _ rfl; (with_reducible repeat (first | refine blk_drewN ?_ _ | refine blk_drew ?_ | refine blk_alloc ?_ _)); refine blk_put (cs := #[.string ((rd_T39 l0 x73_3).f0), .int .i64 ((rd_T39 l0 x73_3).f1), .bool false, .string (⟨#[]⟩ : ByteArray)]) ?_ 2 _ rfl; (with_reducible repeat (first | refine blk_drewN ?_ _ | refine blk_drew ?_ | refine blk_alloc ?_ _)); refine blk_put (cs := #[.string ((rd_T39 l0 x73_3).f0), .int .i64 0, .bool false, .string (⟨#[]⟩ : ByteArray)]) ?_ 1 _ rfl; (with_reducible repeat (first | refine blk_drewN ?_ _ | refine blk_drew ?_ | refine blk_alloc ?_ _)); refine blk_put (cs := #[.string (⟨#[]⟩ : ByteArray), .int .i64 0, .bool false, .string (⟨#[]⟩ : ByteArray)]) ?_ 0 _ rfl; (with_reducible repeat (first | refine blk_drewN ?_ _ | refine blk_drew ?_ | refine blk_alloc ?_ _)); exact BK127.out) hb); have n2_ := Aside0.mk (below_step (by repeat (first | (with_reducible first | exact HB.out | apply below_alloc | apply pw_below_drewN | apply below_drew1 | refine below_set ?_ GE127.out) | exact HB.out)) hb); clear HO_6; clear BK127; clear HB; have HO_6 := n0_; have BK127 := n1_; have HB := n2_; clear n0_ n1_ n2_; (try clear hb); (try clear hb2); (try clear hk); (try clear hi)))
                    have n0_ := Aside0.mk (Kd.R_drew HO_6.out)
                    have n1_ := Aside0.mk (blk_drew BK127.out)
                    have n2_ := Aside0.mk (below_drew1 HB.out)
                    clear HO_6
                    clear BK127
                    clear HB
                    have HO_6 := n0_
                    have BK127 := n1_
                    have HB := n2_
                    clear n0_ n1_ n2_
                    refine start_ (n := 12) (S := fun w' => w'.cell? ⟨gb127, 0, none⟩ = some (.string ((rd_T39 l0 x73_3).f0)) ∧ w'.cell? ⟨gb127, 1, none⟩ = some (.int .i64 ((rd_T39 l0 x73_3).f1)) ∧ w'.cell? ⟨gb127, 2, none⟩ = some (.bool false) ∧ w'.cell? ⟨gb127, 3, none⟩ = some (.string ((rd_T39 l0 x73_3).f3))) (ds := []) (b_ 12 0) (by kernel_rfl) rfl rfl ⟨(blk_cell BK127.out 0).trans rfl, (blk_cell BK127.out 1).trans rfl, (blk_cell BK127.out 2).trans rfl, (blk_cell BK127.out 3).trans rfl⟩ (fun hHeld => ?_); refine with_tabW block_Write.tab15 block_Write.bits15 (fun HT_ HW_ => ?_)
                    generalize w86.drew = w87 at HO_6 BK127 HB hHeld ⊢
                    refine pA_ 0 81 ?_ (b_ 12 1) (any_of HT_.out (by kernel_rfl)) rfl rfl (fun _ _ _ h => h) (by rfl) ?_ ?_ ?_ ?_
                    rotate_left
                    ·
                     intro w'
                     go_simp
                     with_reducible rfl
                    rotate_left
                    ·
                     simp only [Act.put, sa_, s0_, s1_, i64_w, i32_w]
                     rfl
                    refine pA_ 1 82 ?_ (b_ 12 3) (any_of HT_.out (by kernel_rfl)) rfl rfl (fun _ _ _ h => h) (by rfl) ?_ ?_ ?_ ?_
                    rotate_left
                    ·
                     intro w'
                     go_simp
                     with_reducible rfl
                    rotate_left
                    ·
                     simp only [Act.put, sa_, s0_, s1_, i64_w, i32_w]
                     rfl
                    refine pA_ 2 83 ?_ (b_ 12 7) (any_of HT_.out (by kernel_rfl)) rfl rfl (fun _ _ _ h => h) (by rfl) ?_ ?_ ?_ ?_
                    rotate_left
                    ·
                     intro w'
                     go_simp
                     with_reducible rfl
                    rotate_left
                    ·
                     simp only [Act.put, sa_, s0_, s1_, i64_w, i32_w]
                     rfl
                    refine pA_ 5 86 ?_ (b_ 12 39) (any_of HT_.out (by kernel_rfl)) rfl rfl (fun _ _ _ h => h) (by rfl) ?_ ?_ ?_ ?_
                    rotate_left
                    ·
                     intro w'
                     go_simp
                     with_reducible rfl
                    rotate_left
                    ·
                     simp only [Act.put, sa_, s0_, s1_, i64_w, i32_w]
                     rfl
                    refine pA_ 7 88 ?_ (b_ 12 167) (any_of HT_.out (by kernel_rfl)) rfl rfl (fun _ _ _ h => h) (by rfl) ?_ ?_ ?_ ?_
                    rotate_left
                    ·
                     intro w'
                     go_simp
                     with_reducible rfl
                    rotate_left
                    ·
                     simp only [Act.put, sa_, s0_, s1_, i64_w, i32_w]
                     rfl
                    refine tA_ 6 87 ?_ (b_ 12 231) (take_ofW HT_.out HW_.out (by kernel_rfl)) rfl rfl (fun _ _ _ h => h) (by rfl) ?_ hHeld ?_ ?_ ?_
                    rotate_left
                    ·
                     rintro w' ⟨s0, s1, s2, s3⟩
                     go_simp
                     with_reducible rfl
                    rotate_left
                    ·
                     simp only [Act.put, sa_, s0_, s1_, i64_w, i32_w]
                     rfl
                    refine pA_ 8 89 ?_ (b_ 12 487) (any_of HT_.out (by kernel_rfl)) rfl rfl (fun _ _ _ h => h) (by rfl) ?_ ?_ ?_ ?_
                    rotate_left
                    ·
                     intro w'
                     go_simp
                     with_reducible rfl
                    rotate_left
                    ·
                     simp only [Act.put, sa_, s0_, s1_, i64_w, i32_w]
                     rfl
                    refine one_ (i := 3) (N := some 84) (b_ 12 495) rfl rfl (one_of HT_.out (by kernel_rfl)) (by decide) (fun K hK => ?_)
                    refine goes_ Try.func21 (by kernel_rfl) rfl #[.int .u64 (IntKind.u64.wrap (t128))] (by rfl) rfl rfl (by (try simp only [List.map_toArray, List.map_cons, List.map_nil]); first | done | rfl | (simp only [List.length_drop, List.length_take]; rfl)) ?_
                    with_reducible refine (code_Small.calls k3 (IntKind.u64.wrap (t128)) t129 _ A53.out).mono ?_
                    rintro e w88 ⟨v130, rfl, ho0, hb⟩
                    refine ⟨_, rfl, ?_⟩
                    have n0_ := Aside0.mk (Kd.R_elder' (by (with_reducible repeat (first | apply Kd.R_alloc | apply Kd.R_drewN | apply Kd.R_drew)); exact HO_6.out) (Kd.R_base ho0) hb)
                    have n1_ := Aside0.mk (Kd.R_lower (Kd.R_new' ho0 (Kd.R_lt (by (with_reducible repeat (first | apply Kd.R_alloc | apply Kd.R_drewN | apply Kd.R_drew)); exact HO_6.out))) (below_size (by repeat (first | (with_reducible first | exact HB.out | apply below_alloc | apply pw_below_drewN | apply below_drew1 | refine below_set ?_ GE127.out) | exact HB.out))))
                    have n2_ := Aside0.mk (blk_below (g := gb127) (o := .cells #[.string ((rd_T39 l0 x73_3).f0), .int .i64 ((rd_T39 l0 x73_3).f1), .bool false, .string ((rd_T39 l0 x73_3).f3)] 39 (0, 0)) (by (with_reducible repeat (first | refine blk_drewN ?_ _ | refine blk_drew ?_ | refine blk_alloc ?_ _)); exact BK127.out) hb)
                    have n3_ := Aside0.mk (below_step (by repeat (first | (with_reducible first | exact HB.out | apply below_alloc | apply pw_below_drewN | apply below_drew1 | refine below_set ?_ GE127.out) | exact HB.out)) hb)
                    clear HO_6
                    clear BK127
                    clear HB
                    have HO_6 := n0_
                    have HO131 := n1_
                    have BK127 := n2_
                    have HB := n3_
                    clear n0_ n1_ n2_ n3_
                    (try clear hb)
                    (try clear hb2)
                    (try clear hk)
                    (try clear hi)
                    (try clear ho0)
                    obtain ⟨Ao90, co90, eo90⟩ := Kd.R_slice HO131.out
                    (first | subst eo90 | (injection eo90 with f1_ f2_ f3_; have f4_ := f1_.symm; have f5_ := f3_.symm; clear f1_ f2_ f3_; subst f4_; subst f5_))
                    refine hK.out _ _ ⟨(blk_cell BK127.out 0).trans rfl, (blk_cell BK127.out 1).trans rfl, (blk_cell BK127.out 2).trans rfl, (blk_cell BK127.out 3).trans rfl⟩ (fun hHeld => ?_)
                    clear hK K
                    refine norm_ (a' := ?_) ?_ ?_
                    rotate_left
                    ·
                     show Act.put _ (some 84) _ = _
                     simp only [Act.put, sa_, s0_, s1_, i64_w, i32_w]
                     rfl
                    refine one_ (i := 4) (N := some 85) (b_ 12 511) rfl rfl (one_of HT_.out (by kernel_rfl)) (by decide) (fun K hK => ?_)
                    refine Kd.R_append_rows_step (Kd.int .u8) (w0 := w) w.heap.size (by rfl) (.tmp 81) (.tmp 84) 23 5 (.int .u8 0) 1 rfl Try.underlying23 info5 rfl (by decide) (by omega) u6 x6_3 t129 _ _ _ (fun k_ => some k_ ≠ (.slice Ao90 t129.length co90 : Value).ownBlock) (fun _ => False) rfl rfl ?aO ?aR (fun _ _ h => h) (fun _ h => h.elim) ?aF ?aB ?aS ?aL ?_
                    (case aR => repeat (first | exact (Kd.R_reads' HO131.out).2.2 | (with_reducible refine Kd.C_alloc ?_ _) | (with_reducible refine Kd.C_drewN ?_ _) | (with_reducible refine Kd.C_drew ?_)))
                    (case aB => exact (by repeat (first | (with_reducible first | exact HB.out | apply below_alloc | apply pw_below_drewN | apply below_drew1 | refine below_set ?_ GE127.out) | exact HB.out)))
                    (case aF => exact (fun k_ hk => Kd.fresh' (Kd.R_lt (by (with_reducible repeat (first | apply Kd.R_alloc | apply Kd.R_drewN | apply Kd.R_drew)); exact HO131.out)) k_ hk))
                    (case aO => exact (by (with_reducible repeat (first | apply Kd.R_alloc | apply Kd.R_drewN | apply Kd.R_drew)); exact Kd.R_mono HO_6.out (fun _ hk => hk.2)))
                    (case aS => exact (below_size (by repeat (first | (with_reducible first | exact HB.out | apply below_alloc | apply pw_below_drewN | apply below_drew1 | refine below_set ?_ GE127.out) | exact HB.out))))
                    (case aL => have := LMc54.out; omega)
                    intro v133 w89 ho hb hg hat
                    rw [← Ny132.out] at ho
                    have n0_ := Aside0.mk (blk_grown (g := gb127) (o := .cells #[.string ((rd_T39 l0 x73_3).f0), .int .i64 ((rd_T39 l0 x73_3).f1), .bool false, .string ((rd_T39 l0 x73_3).f3)] 39 (0, 0)) (by (with_reducible repeat (first | refine blk_drewN ?_ _ | refine blk_drew ?_ | refine blk_alloc ?_ _)); exact BK127.out) hg (Kd.R_ne HO_6.out BK127.out (by decide)))
                    have n1_ := Aside0.mk (Kd.R_after (ok := (fun _ => True)) (by (with_reducible repeat (first | apply Kd.R_alloc | apply Kd.R_drewN | apply Kd.R_drew)); exact HO131.out) hg hat)
                    have n2_ := Aside0.mk (hb)
                    have n3_ := Aside0.mk (ho)
                    clear BK127
                    clear HO131
                    clear HB
                    clear HO_6
                    have BK127 := n0_
                    have HO131 := n1_
                    have HB := n2_
                    have HO134 := n3_
                    clear n0_ n1_ n2_ n3_
                    clear ho hb hg hat
                    refine hK.out _ _ ⟨(blk_cell BK127.out 0).trans rfl, (blk_cell BK127.out 1).trans rfl, (blk_cell BK127.out 2).trans rfl, (blk_cell BK127.out 3).trans rfl⟩ (fun hHeld => ?_)
                    clear hK K
                    refine norm_ (a' := ?_) ?_ ?_
                    rotate_left
                    ·
                     show Act.put _ (some 85) _ = _
                     simp only [Act.put, sa_, s0_, s1_, i64_w, i32_w]
                     rfl
                    refine one_ (i := 9) (N := some 90) (b_ 12 1023) rfl rfl (one_of HT_.out (by kernel_rfl)) (by decide) (fun K hK => ?_)
                    refine goes_ Try.func22 (by kernel_rfl) rfl #[.string (((rd_T39 l0 x73_3).f0).extract (t128 : Int).toNat ((rd_T39 l0 x73_3).f0).size)] (by rfl) rfl rfl (by (try simp only [List.map_toArray, List.map_cons, List.map_nil]); first | done | rfl | (simp only [List.length_drop, List.length_take]; rfl)) ?_
                    with_reducible refine (code_Text.calls k3 (((rd_T39 l0 x73_3).f0).extract (t128 : Int).toNat ((rd_T39 l0 x73_3).f0).size) t135 _ A57.out).mono ?_
                    rintro e w91 ⟨v136, rfl, ho0, hb⟩
                    refine ⟨_, rfl, ?_⟩
                    obtain ⟨HO131, HO134, HO137, BK127, HB⟩ := And.intro (Aside0.mk (Kd.R_elder' (by (with_reducible repeat (first | apply Kd.R_alloc | apply Kd.R_drewN | apply Kd.R_drew)); exact HO131.out) (Kd.R_base ho0) hb)) (And.intro (Aside0.mk (Kd.R_elder' (by (with_reducible repeat (first | apply Kd.R_alloc | apply Kd.R_drewN | apply Kd.R_drew)); exact HO134.out) (Kd.R_base ho0) hb)) (And.intro (Aside0.mk (Kd.R_lower (Kd.R_new' (Kd.R_new' ho0 (Kd.R_lt (by (with_reducible repeat (first | apply Kd.R_alloc | apply Kd.R_drewN | apply Kd.R_drew)); exact HO131.out))) (Kd.R_lt (by (with_reducible repeat (first | apply Kd.R_alloc | apply Kd.R_drewN | apply Kd.R_drew)); exact HO134.out))) (below_size (by repeat (first | (with_reducible first | exact HB.out | apply below_alloc | apply pw_below_drewN | apply below_drew1 | refine below_set ?_ GE127.out) | exact HB.out))))) (And.intro (Aside0.mk (blk_below (g := gb127) (o := .cells #[.string ((rd_T39 l0 x73_3).f0), .int .i64 ((rd_T39 l0 x73_3).f1), .bool false, .string ((rd_T39 l0 x73_3).f3)] 39 (0, 0)) (by (with_reducible repeat (first | refine blk_drewN ?_ _ | refine blk_drew ?_ | refine blk_alloc ?_ _)); exact BK127.out) hb)) (Aside0.mk (below_step (by repeat (first | (with_reducible first | exact HB.out | apply below_alloc | apply pw_below_drewN | apply below_drew1 | refine below_set ?_ GE127.out) | exact HB.out)) hb)))))
                    (try clear hb)
                    (try clear hb2)
                    (try clear hk)
                    (try clear hi)
                    (try clear ho0)
                    obtain ⟨Ao93, co93, eo93⟩ := Kd.R_slice HO137.out
                    (first | subst eo93 | (injection eo93 with f1_ f2_ f3_; have f4_ := f1_.symm; have f5_ := f3_.symm; clear f1_ f2_ f3_; subst f4_; subst f5_))
                    refine hK.out _ _ ⟨(blk_cell BK127.out 0).trans rfl, (blk_cell BK127.out 1).trans rfl, (blk_cell BK127.out 2).trans rfl, (blk_cell BK127.out 3).trans rfl⟩ (fun hHeld => ?_)
                    clear hK K
                    refine norm_ (a' := ?_) ?_ ?_
                    rotate_left
                    ·
                     show Act.put _ (some 90) _ = _
                     simp only [Act.put, sa_, s0_, s1_, i64_w, i32_w]
                     rfl
                    refine one_ (i := 10) (N := some 91) (b_ 12 2047) rfl rfl (one_of HT_.out (by kernel_rfl)) (by decide) (fun K hK => ?_)
                    refine Kd.R_append_rows_step (Kd.int .u8) (w0 := w) w.heap.size (by rfl) (.tmp 85) (.tmp 90) 23 5 (.int .u8 0) 1 rfl Try.underlying23 info5 rfl (by decide) (by omega) v133 y132 t135 _ _ _ (fun k_ => some k_ ≠ (.slice Ao90 t129.length co90 : Value).ownBlock ∧ some k_ ≠ (.slice Ao93 t135.length co93 : Value).ownBlock) (fun _ => False) rfl rfl ?aO ?aR (fun _ _ h => h) (fun _ h => h.elim) ?aF ?aB ?aS ?aL ?_
                    (case aR => repeat (first | exact (Kd.R_reads' HO137.out).2.2 | (with_reducible refine Kd.C_alloc ?_ _) | (with_reducible refine Kd.C_drewN ?_ _) | (with_reducible refine Kd.C_drew ?_)))
                    (case aB => exact (by repeat (first | (with_reducible first | exact HB.out | apply below_alloc | apply pw_below_drewN | apply below_drew1 | refine below_set ?_ GE127.out) | exact HB.out)))
                    (case aF => exact (fun k_ hk => ⟨Kd.fresh' (Kd.R_lt (by (with_reducible repeat (first | apply Kd.R_alloc | apply Kd.R_drewN | apply Kd.R_drew)); exact HO131.out)) k_ hk, Kd.fresh' (Kd.R_lt (by (with_reducible repeat (first | apply Kd.R_alloc | apply Kd.R_drewN | apply Kd.R_drew)); exact HO137.out)) k_ hk⟩))
                    (case aO => exact (by (with_reducible repeat (first | apply Kd.R_alloc | apply Kd.R_drewN | apply Kd.R_drew)); exact HO134.out))
                    (case aS => exact (below_size (by repeat (first | (with_reducible first | exact HB.out | apply below_alloc | apply pw_below_drewN | apply below_drew1 | refine below_set ?_ GE127.out) | exact HB.out))))
                    (case aL => have := LMc58.out; omega)
                    intro v139 w92 ho hb hg hat
                    rw [← Ny138.out] at ho
                    have n0_ := Aside0.mk (blk_grown (g := gb127) (o := .cells #[.string ((rd_T39 l0 x73_3).f0), .int .i64 ((rd_T39 l0 x73_3).f1), .bool false, .string ((rd_T39 l0 x73_3).f3)] 39 (0, 0)) (by (with_reducible repeat (first | refine blk_drewN ?_ _ | refine blk_drew ?_ | refine blk_alloc ?_ _)); exact BK127.out) hg (Kd.R_ne HO134.out BK127.out (by decide)))
                    have n1_ := Aside0.mk (Kd.R_after (ok := (fun k_ => some k_ ≠ (.slice Ao93 t135.length co93 : Value).ownBlock)) (by (with_reducible repeat (first | apply Kd.R_alloc | apply Kd.R_drewN | apply Kd.R_drew)); exact Kd.R_mono HO131.out (fun _ hk => ⟨hk.2, hk.1.2⟩)) hg hat)
                    have n2_ := Aside0.mk (Kd.R_after (ok := (fun k_ => some k_ ≠ (.slice Ao90 t129.length co90 : Value).ownBlock)) (by (with_reducible repeat (first | apply Kd.R_alloc | apply Kd.R_drewN | apply Kd.R_drew)); exact Kd.R_mono HO137.out (fun _ hk => ⟨hk.1.2, hk.2⟩)) hg hat)
                    have n3_ := Aside0.mk (hb)
                    have n4_ := Aside0.mk (ho)
                    clear BK127
                    clear HO131
                    clear HO137
                    clear HB
                    clear HO134
                    have BK127 := n0_
                    have HO131 := n1_
                    have HO137 := n2_
                    have HB := n3_
                    have HO140 := n4_
                    clear n0_ n1_ n2_ n3_ n4_
                    clear ho hb hg hat
                    refine hK.out _ _ ⟨(blk_cell BK127.out 0).trans rfl, (blk_cell BK127.out 1).trans rfl, (blk_cell BK127.out 2).trans rfl, (blk_cell BK127.out 3).trans rfl⟩ (fun hHeld => ?_)
                    clear hK K
                    refine norm_ (a' := ?_) ?_ ?_
                    rotate_left
                    ·
                     show Act.put _ (some 91) _ = _
                     simp only [Act.put, sa_, s0_, s1_, i64_w, i32_w]
                     rfl
                    refine pA_ 11 6 ?_ (b_ 12 4095) (any_of HT_.out (by kernel_rfl)) rfl rfl (fun _ _ _ h => h) (by rfl) ?_ ?_ ?_ ?_
                    rotate_left
                    ·
                     intro w'
                     go_simp
                     with_reducible rfl
                    rotate_left
                    ·
                     simp only [Act.put, sa_, s0_, s1_, i64_w, i32_w]
                     rfl
                    refine done_ (done_of HT_.out (by kernel_rfl)) ?_
                    have hcz94_0 : w92.cell? ⟨gb127, 0, none⟩ = some (.string ((rd_T39 l0 x73_3).f0)) := (blk_cell BK127.out 0).trans rfl
                    have hcz94_1 : w92.cell? ⟨gb127, 1, none⟩ = some (.int .i64 ((rd_T39 l0 x73_3).f1)) := (blk_cell BK127.out 1).trans rfl
                    have hcz94_2 : w92.cell? ⟨gb127, 2, none⟩ = some (.bool false) := (blk_cell BK127.out 2).trans rfl
                    have hcz94_3 : w92.cell? ⟨gb127, 3, none⟩ = some (.string ((rd_T39 l0 x73_3).f3)) := (blk_cell BK127.out 3).trans rfl
                    have hfz94_0 := blk_frozen BK127.out 0
                    have hfz94_1 := blk_frozen BK127.out 1
                    have hfz94_2 := blk_frozen BK127.out 2
                    have hfz94_3 := blk_frozen BK127.out 3
                    try go_wp2_with (first | ((with_reducible refine gate_callee (f := 21) rfl ?_); refine goesL_ (some 96) rfl rfl Try.func21 (by kernel_rfl) rfl #[.int .u64 (IntKind.u64.wrap ((rd_T39 l0 x73_3).f1))] rfl (by (try simp only [List.map_toArray, List.map_cons, List.map_nil]); first | done | rfl | (simp only [List.length_drop, List.length_take]; rfl)) ?_; (with_reducible refine (code_Small.calls k3 (IntKind.u64.wrap ((rd_T39 l0 x73_3).f1)) t141 _ A59.out).mono ?_); rintro e w95 ⟨v142, rfl, ho0, hb⟩; refine ⟨_, rfl, ?_⟩; have n0_ := Aside0.mk (Kd.R_elder' (by (with_reducible repeat (first | apply Kd.R_alloc | apply Kd.R_drewN | apply Kd.R_drew)); exact HO131.out) (Kd.R_base ho0) hb); have n1_ := Aside0.mk (Kd.R_elder' (by (with_reducible repeat (first | apply Kd.R_alloc | apply Kd.R_drewN | apply Kd.R_drew)); exact HO137.out) (Kd.R_base ho0) hb); have n2_ := Aside0.mk (Kd.R_elder' (by (with_reducible repeat (first | apply Kd.R_alloc | apply Kd.R_drewN | apply Kd.R_drew)); exact HO140.out) (Kd.R_base ho0) hb); have n3_ := Aside0.mk (Kd.R_lower (Kd.R_new' (Kd.R_new' (Kd.R_new' ho0 (Kd.R_lt (by (with_reducible repeat (first | apply Kd.R_alloc | apply Kd.R_drewN | apply Kd.R_drew)); exact HO131.out))) (Kd.R_lt (by (with_reducible repeat (first | apply Kd.R_alloc | apply Kd.R_drewN | apply Kd.R_drew)); exact HO137.out))) (Kd.R_lt (by (with_reducible repeat (first | apply Kd.R_alloc | apply Kd.R_drewN | apply Kd.R_drew)); exact HO140.out))) (below_size (by repeat (first | (with_reducible first | exact HB.out | apply below_alloc | apply pw_below_drewN | apply below_drew1 | refine below_set ?_ GE127.out) | exact HB.out)))); have n4_ := Aside0.mk (blk_below (g := gb127) (o := .cells #[.string ((rd_T39 l0 x73_3).f0), .int .i64 ((rd_T39 l0 x73_3).f1), .bool false, .string ((rd_T39 l0 x73_3).f3)] 39 (0, 0)) (by (with_reducible repeat (first | refine blk_drewN ?_ _ | refine blk_drew ?_ | refine blk_alloc ?_ _)); exact BK127.out) hb); have n5_ := Aside0.mk (below_step (by repeat (first | (with_reducible first | exact HB.out | apply below_alloc | apply pw_below_drewN | apply below_drew1 | refine below_set ?_ GE127.out) | exact HB.out)) hb); clear HO131; clear HO137; clear HO140; clear BK127; clear HB; have HO131 := n0_; have HO137 := n1_; have HO140 := n2_; have HO143 := n3_; have BK127 := n4_; have HB := n5_; clear n0_ n1_ n2_ n3_ n4_ n5_; (try clear hb); (try clear hb2); (try clear hk); (try clear hi); (try clear ho0); obtain ⟨Ao97, co97, eo97⟩ := Kd.R_slice HO143.out; subst eo97) | ((with_reducible refine gate_builtin (b := .append) (xs := #[.tmp 92, .tmp 96]) rfl ?_); (try (refine gate_guard (by rfl) ?_; dsimp only)); at_builtin; refine Kd.R_append_rows (Kd.int .u8) (w0 := w) w.heap.size rfl (.tmp 92) (.tmp 96) 23 5 (.int .u8 0) 1 rfl Try.underlying23 info5 rfl (by decide) (by omega) v139 y138 t141 _ _ _ (fun k_ => some k_ ≠ (.slice Ao90 t129.length co90 : Value).ownBlock ∧ some k_ ≠ (.slice Ao93 t135.length co93 : Value).ownBlock ∧ some k_ ≠ (.slice Ao97 t141.length co97 : Value).ownBlock) (fun _ => False) rfl rfl ?aO ?aR (fun _ _ h => h) (fun _ h => h.elim) ?aF ?aB ?aS ?aL ?_; (case aR => repeat (first | exact (Kd.R_reads' HO143.out).2.2 | (with_reducible refine Kd.C_alloc ?_ _) | (with_reducible refine Kd.C_drewN ?_ _) | (with_reducible refine Kd.C_drew ?_))); (case aB => exact (by repeat (first | (with_reducible first | exact HB.out | apply below_alloc | apply pw_below_drewN | apply below_drew1 | refine below_set ?_ GE127.out) | exact HB.out))); (case aF => exact (fun k_ hk => ⟨Kd.fresh' (Kd.R_lt (by (with_reducible repeat (first | apply Kd.R_alloc | apply Kd.R_drewN | apply Kd.R_drew)); exact HO131.out)) k_ hk, Kd.fresh' (Kd.R_lt (by (with_reducible repeat (first | apply Kd.R_alloc | apply Kd.R_drewN | apply Kd.R_drew)); exact HO137.out)) k_ hk, Kd.fresh' (Kd.R_lt (by (with_reducible repeat (first | apply Kd.R_alloc | apply Kd.R_drewN | apply Kd.R_drew)); exact HO143.out)) k_ hk⟩)); (case aO => exact (by (with_reducible repeat (first | apply Kd.R_alloc | apply Kd.R_drewN | apply Kd.R_drew)); exact Kd.R_mono HO140.out (fun _ hk => ⟨hk.1.1, ⟨hk.1.2, hk.2⟩⟩))); (case aS => exact (below_size (by repeat (first | (with_reducible first | exact HB.out | apply below_alloc | apply pw_below_drewN | apply below_drew1 | refine below_set ?_ GE127.out) | exact HB.out)))); (case aL => have := LMc60.out; omega); intro v145 w96 ho hb hg hat; rw [← Ny144.out] at ho; have n0_ := Aside0.mk (blk_grown (g := gb127) (o := .cells #[.string ((rd_T39 l0 x73_3).f0), .int .i64 ((rd_T39 l0 x73_3).f1), .bool false, .string ((rd_T39 l0 x73_3).f3)] 39 (0, 0)) (by (with_reducible repeat (first | refine blk_drewN ?_ _ | refine blk_drew ?_ | refine blk_alloc ?_ _)); exact BK127.out) hg (Kd.R_ne HO140.out BK127.out (by decide))); have n1_ := Aside0.mk (Kd.R_after (ok := (fun k_ => some k_ ≠ (.slice Ao93 t135.length co93 : Value).ownBlock ∧ some k_ ≠ (.slice Ao97 t141.length co97 : Value).ownBlock)) (by (with_reducible repeat (first | apply Kd.R_alloc | apply Kd.R_drewN | apply Kd.R_drew)); exact Kd.R_mono HO131.out (fun _ hk => ⟨⟨hk.1.1, hk.2⟩, hk.1.2⟩)) hg hat); have n2_ := Aside0.mk (Kd.R_after (ok := (fun k_ => some k_ ≠ (.slice Ao90 t129.length co90 : Value).ownBlock ∧ some k_ ≠ (.slice Ao97 t141.length co97 : Value).ownBlock)) (by (with_reducible repeat (first | apply Kd.R_alloc | apply Kd.R_drewN | apply Kd.R_drew)); exact Kd.R_mono HO137.out (fun _ hk => ⟨⟨hk.1.1, hk.2⟩, hk.1.2⟩)) hg hat); have n3_ := Aside0.mk (Kd.R_after (ok := (fun k_ => some k_ ≠ (.slice Ao90 t129.length co90 : Value).ownBlock ∧ some k_ ≠ (.slice Ao93 t135.length co93 : Value).ownBlock)) (by (with_reducible repeat (first | apply Kd.R_alloc | apply Kd.R_drewN | apply Kd.R_drew)); exact Kd.R_mono HO143.out (fun _ hk => ⟨⟨hk.1.1.2, hk.1.2⟩, hk.2⟩)) hg hat); have n4_ := Aside0.mk (hb); have n5_ := Aside0.mk (ho); clear BK127; clear HO131; clear HO137; clear HO143; clear HB; clear HO140; have BK127 := n0_; have HO131 := n1_; have HO137 := n2_; have HO143 := n3_; have HB := n4_; have HO146 := n5_; clear n0_ n1_ n2_ n3_ n4_ n5_; clear ho hb hg hat; have hcz98_0 : w96.cell? ⟨gb127, 0, none⟩ = some (.string ((rd_T39 l0 x73_3).f0)) := (blk_cell BK127.out 0).trans rfl; have hcz98_1 : w96.cell? ⟨gb127, 1, none⟩ = some (.int .i64 ((rd_T39 l0 x73_3).f1)) := (blk_cell BK127.out 1).trans rfl; have hcz98_2 : w96.cell? ⟨gb127, 2, none⟩ = some (.bool false) := (blk_cell BK127.out 2).trans rfl; have hcz98_3 : w96.cell? ⟨gb127, 3, none⟩ = some (.string ((rd_T39 l0 x73_3).f3)) := (blk_cell BK127.out 3).trans rfl; have hfz98_0 := blk_frozen BK127.out 0; have hfz98_1 := blk_frozen BK127.out 1; have hfz98_2 := blk_frozen BK127.out 2; have hfz98_3 := blk_frozen BK127.out 3))
                    obtain ⟨HO131, HO137, HO143, HO146, BK127, HB⟩ := And.intro (Aside0.mk (Kd.R_drew HO131.out)) (And.intro (Aside0.mk (Kd.R_drew HO137.out)) (And.intro (Aside0.mk (Kd.R_drew HO143.out)) (And.intro (Aside0.mk (Kd.R_drew HO146.out)) (And.intro (Aside0.mk (blk_drew BK127.out)) (Aside0.mk (below_drew1 HB.out))))))
                    refine start_ (n := 8) (S := fun w' => w'.cell? ⟨gb127, 0, none⟩ = some (.string ((rd_T39 l0 x73_3).f0)) ∧ w'.cell? ⟨gb127, 1, none⟩ = some (.int .i64 ((rd_T39 l0 x73_3).f1)) ∧ w'.cell? ⟨gb127, 2, none⟩ = some (.bool false) ∧ w'.cell? ⟨gb127, 3, none⟩ = some (.string ((rd_T39 l0 x73_3).f3))) (ds := []) (b_ 8 0) (by kernel_rfl) rfl rfl ⟨(blk_cell BK127.out 0).trans rfl, (blk_cell BK127.out 1).trans rfl, (blk_cell BK127.out 2).trans rfl, (blk_cell BK127.out 3).trans rfl⟩ (fun hHeld => ?_); refine with_tabW block_Write.tab19 block_Write.bits19 (fun HT_ HW_ => ?_)
                    generalize w96.drew = w99 at HO131 HO137 HO143 HO146 BK127 HB hHeld ⊢
                    refine pA_ 0 103 ?_ (b_ 8 1) (any_of HT_.out (by kernel_rfl)) rfl rfl (fun _ _ _ h => h) (by rfl) ?_ ?_ ?_ ?_
                    rotate_left
                    ·
                     intro w'
                     go_simp
                     with_reducible rfl
                    rotate_left
                    ·
                     simp only [Act.put, sa_, s0_, s1_, i64_w, i32_w]
                     rfl
                    refine pA_ 3 106 ?_ (b_ 8 9) (any_of HT_.out (by kernel_rfl)) rfl rfl (fun _ _ _ h => h) (by rfl) ?_ ?_ ?_ ?_
                    rotate_left
                    ·
                     intro w'
                     go_simp
                     with_reducible rfl
                    rotate_left
                    ·
                     simp only [Act.put, sa_, s0_, s1_, i64_w, i32_w]
                     rfl
                    refine tA_ 4 107 ?_ (b_ 8 25) (take_ofW HT_.out HW_.out (by kernel_rfl)) rfl rfl (fun _ _ _ h => h) (by rfl) ?_ hHeld ?_ ?_ ?_
                    rotate_left
                    ·
                     rintro w' ⟨s0, s1, s2, s3⟩
                     go_simp
                     with_reducible rfl
                    rotate_left
                    ·
                     simp only [Act.put, sa_, s0_, s1_, i64_w, i32_w]
                     rfl
                    refine one_ (i := 1) (N := some 104) (b_ 8 27) rfl rfl (one_of HT_.out (by kernel_rfl)) (by decide) (fun K hK => ?_)
                    refine value_ (w1 := ?_) (v := ?_) (by rfl) rfl ?_ ?_
                    rotate_left 2
                    ·
                     go_simp
                     constructor
                     ·
                      rfl
                     ·
                      rfl
                    refine hK.out _ _ ⟨(blk_cell (blk_alloc BK127.out _) 0).trans rfl, (blk_cell (blk_alloc BK127.out _) 1).trans rfl, (blk_cell (blk_alloc BK127.out _) 2).trans rfl, (blk_cell (blk_alloc BK127.out _) 3).trans rfl⟩ (fun hHeld => ?_)
                    clear hK K
                    refine norm_ (a' := ?_) ?_ ?_
                    rotate_left
                    ·
                     show Act.put _ (some 104) _ = _
                     simp only [Act.put, sa_, s0_, s1_, i64_w, i32_w]
                     rfl
                    refine one_ (i := 2) (N := some 105) (b_ 8 31) rfl rfl (one_of HT_.out (by kernel_rfl)) (by decide) (fun K hK => ?_)
                    refine Kd.R_append_step (Kd.int .u8) (w0 := w) w.heap.size (by rfl) (.tmp 103) (.tmp 104) 23 5 (.int .u8 0) 1 rfl Try.underlying23 info5 rfl (by decide) (by omega) v145 y144 0 [.int .u8 0] (fun k_ => some k_ ≠ (.slice Ao90 t129.length co90 : Value).ownBlock ∧ some k_ ≠ (.slice Ao93 t135.length co93 : Value).ownBlock ∧ some k_ ≠ (.slice Ao97 t141.length co97 : Value).ownBlock) (fun _ => False) rfl rfl ?aP (fun _ hk => hk.elim) ?aF ?aO ?aB ?aS ?aL ?_
                    (case aP => exact rfl)
                    (case aB => exact (by repeat (first | (with_reducible first | exact HB.out | apply below_alloc | apply pw_below_drewN | apply below_drew1 | refine below_set ?_ GE127.out) | exact HB.out)))
                    (case aF => exact (fun k_ hk => ⟨Kd.fresh' (Kd.R_lt (by (with_reducible repeat (first | apply Kd.R_alloc | apply Kd.R_drewN | apply Kd.R_drew)); exact HO131.out)) k_ hk, Kd.fresh' (Kd.R_lt (by (with_reducible repeat (first | apply Kd.R_alloc | apply Kd.R_drewN | apply Kd.R_drew)); exact HO137.out)) k_ hk, Kd.fresh' (Kd.R_lt (by (with_reducible repeat (first | apply Kd.R_alloc | apply Kd.R_drewN | apply Kd.R_drew)); exact HO143.out)) k_ hk⟩))
                    (case aO => exact (by (with_reducible repeat (first | apply Kd.R_alloc | apply Kd.R_drewN | apply Kd.R_drew)); exact HO146.out))
                    (case aS => exact (below_size (by repeat (first | (with_reducible first | exact HB.out | apply below_alloc | apply pw_below_drewN | apply below_drew1 | refine below_set ?_ GE127.out) | exact HB.out))))
                    (case aL => have := LMc81.out; omega)
                    intro v151 w100 ho hb hg hat
                    rw [← Ny150.out] at ho
                    have n0_ := Aside0.mk (blk_grown (g := gb127) (o := .cells #[.string ((rd_T39 l0 x73_3).f0), .int .i64 ((rd_T39 l0 x73_3).f1), .bool false, .string ((rd_T39 l0 x73_3).f3)] 39 (0, 0)) (by (with_reducible repeat (first | refine blk_drewN ?_ _ | refine blk_drew ?_ | refine blk_alloc ?_ _)); exact BK127.out) hg (Kd.R_ne HO146.out BK127.out (by decide)))
                    have n1_ := Aside0.mk (Kd.R_after (ok := (fun k_ => some k_ ≠ (.slice Ao93 t135.length co93 : Value).ownBlock ∧ some k_ ≠ (.slice Ao97 t141.length co97 : Value).ownBlock)) (by (with_reducible repeat (first | apply Kd.R_alloc | apply Kd.R_drewN | apply Kd.R_drew)); exact HO131.out) hg hat)
                    have n2_ := Aside0.mk (Kd.R_after (ok := (fun k_ => some k_ ≠ (.slice Ao90 t129.length co90 : Value).ownBlock ∧ some k_ ≠ (.slice Ao97 t141.length co97 : Value).ownBlock)) (by (with_reducible repeat (first | apply Kd.R_alloc | apply Kd.R_drewN | apply Kd.R_drew)); exact HO137.out) hg hat)
                    have n3_ := Aside0.mk (Kd.R_after (ok := (fun k_ => some k_ ≠ (.slice Ao90 t129.length co90 : Value).ownBlock ∧ some k_ ≠ (.slice Ao93 t135.length co93 : Value).ownBlock)) (by (with_reducible repeat (first | apply Kd.R_alloc | apply Kd.R_drewN | apply Kd.R_drew)); exact HO143.out) hg hat)
                    have n4_ := Aside0.mk (hb)
                    have n5_ := Aside0.mk (ho)
                    clear BK127
                    clear HO131
                    clear HO137
                    clear HO143
                    clear HB
                    clear HO146
                    have BK127 := n0_
                    have HO131 := n1_
                    have HO137 := n2_
                    have HO143 := n3_
                    have HB := n4_
                    have HO152 := n5_
                    clear n0_ n1_ n2_ n3_ n4_ n5_
                    clear ho hb hg hat
                    refine hK.out _ _ ⟨(blk_cell BK127.out 0).trans rfl, (blk_cell BK127.out 1).trans rfl, (blk_cell BK127.out 2).trans rfl, (blk_cell BK127.out 3).trans rfl⟩ (fun hHeld => ?_)
                    clear hK K
                    refine norm_ (a' := ?_) ?_ ?_
                    rotate_left
                    ·
                     show Act.put _ (some 105) _ = _
                     simp only [Act.put, sa_, s0_, s1_, i64_w, i32_w]
                     rfl
                    refine one_ (i := 5) (N := some 108) (b_ 8 63) rfl rfl (one_of HT_.out (by kernel_rfl)) (by decide) (fun K hK => ?_)
                    refine goes_ Try.func22 (by kernel_rfl) rfl #[.string ((rd_T39 l0 x73_3).f3)] (by rfl) rfl rfl (by (try simp only [List.map_toArray, List.map_cons, List.map_nil]); first | done | rfl | (simp only [List.length_drop, List.length_take]; rfl)) ?_
                    with_reducible refine (code_Text.calls k3 ((rd_T39 l0 x73_3).f3) t153 _ A82.out).mono ?_
                    rintro e w101 ⟨v154, rfl, ho0, hb⟩
                    refine ⟨_, rfl, ?_⟩
                    obtain ⟨HO131, HO137, HO143, HO152, HO155, BK127, HB⟩ := And.intro (Aside0.mk (Kd.R_elder' (by (with_reducible repeat (first | apply Kd.R_alloc | apply Kd.R_drewN | apply Kd.R_drew)); exact HO131.out) (Kd.R_base ho0) hb)) (And.intro (Aside0.mk (Kd.R_elder' (by (with_reducible repeat (first | apply Kd.R_alloc | apply Kd.R_drewN | apply Kd.R_drew)); exact HO137.out) (Kd.R_base ho0) hb)) (And.intro (Aside0.mk (Kd.R_elder' (by (with_reducible repeat (first | apply Kd.R_alloc | apply Kd.R_drewN | apply Kd.R_drew)); exact HO143.out) (Kd.R_base ho0) hb)) (And.intro (Aside0.mk (Kd.R_elder' (by (with_reducible repeat (first | apply Kd.R_alloc | apply Kd.R_drewN | apply Kd.R_drew)); exact HO152.out) (Kd.R_base ho0) hb)) (And.intro (Aside0.mk (Kd.R_lower (Kd.R_new' (Kd.R_new' (Kd.R_new' (Kd.R_new' ho0 (Kd.R_lt (by (with_reducible repeat (first | apply Kd.R_alloc | apply Kd.R_drewN | apply Kd.R_drew)); exact HO131.out))) (Kd.R_lt (by (with_reducible repeat (first | apply Kd.R_alloc | apply Kd.R_drewN | apply Kd.R_drew)); exact HO137.out))) (Kd.R_lt (by (with_reducible repeat (first | apply Kd.R_alloc | apply Kd.R_drewN | apply Kd.R_drew)); exact HO143.out))) (Kd.R_lt (by (with_reducible repeat (first | apply Kd.R_alloc | apply Kd.R_drewN | apply Kd.R_drew)); exact HO152.out))) (below_size (by repeat (first | (with_reducible first | exact HB.out | apply below_alloc | apply pw_below_drewN | apply below_drew1 | refine below_set ?_ GE127.out) | exact HB.out))))) (And.intro (Aside0.mk (blk_below (g := gb127) (o := .cells #[.string ((rd_T39 l0 x73_3).f0), .int .i64 ((rd_T39 l0 x73_3).f1), .bool false, .string ((rd_T39 l0 x73_3).f3)] 39 (0, 0)) (by (with_reducible repeat (first | refine blk_drewN ?_ _ | refine blk_drew ?_ | refine blk_alloc ?_ _)); exact BK127.out) hb)) (Aside0.mk (below_step (by repeat (first | (with_reducible first | exact HB.out | apply below_alloc | apply pw_below_drewN | apply below_drew1 | refine below_set ?_ GE127.out) | exact HB.out)) hb)))))))
                    (try clear hb)
                    (try clear hb2)
                    (try clear hk)
                    (try clear hi)
                    (try clear ho0)
                    obtain ⟨Ao103, co103, eo103⟩ := Kd.R_slice HO155.out
                    (first | subst eo103 | (injection eo103 with f1_ f2_ f3_; have f4_ := f1_.symm; have f5_ := f3_.symm; clear f1_ f2_ f3_; subst f4_; subst f5_))
                    refine hK.out _ _ ⟨(blk_cell BK127.out 0).trans rfl, (blk_cell BK127.out 1).trans rfl, (blk_cell BK127.out 2).trans rfl, (blk_cell BK127.out 3).trans rfl⟩ (fun hHeld => ?_)
                    clear hK K
                    refine norm_ (a' := ?_) ?_ ?_
                    rotate_left
                    ·
                     show Act.put _ (some 108) _ = _
                     simp only [Act.put, sa_, s0_, s1_, i64_w, i32_w]
                     rfl
                    refine one_ (i := 6) (N := some 109) (b_ 8 127) rfl rfl (one_of HT_.out (by kernel_rfl)) (by decide) (fun K hK => ?_)
                    refine Kd.R_append_rows_step (Kd.int .u8) (w0 := w) w.heap.size (by rfl) (.tmp 105) (.tmp 108) 23 5 (.int .u8 0) 1 rfl Try.underlying23 info5 rfl (by decide) (by omega) v151 y150 t153 _ _ _ (fun k_ => some k_ ≠ (.slice Ao90 t129.length co90 : Value).ownBlock ∧ some k_ ≠ (.slice Ao93 t135.length co93 : Value).ownBlock ∧ some k_ ≠ (.slice Ao97 t141.length co97 : Value).ownBlock ∧ some k_ ≠ (.slice Ao103 t153.length co103 : Value).ownBlock) (fun _ => False) rfl rfl ?aO ?aR (fun _ _ h => h) (fun _ h => h.elim) ?aF ?aB ?aS ?aL ?_
                    (case aR => repeat (first | exact (Kd.R_reads' HO155.out).2.2 | (with_reducible refine Kd.C_alloc ?_ _) | (with_reducible refine Kd.C_drewN ?_ _) | (with_reducible refine Kd.C_drew ?_)))
                    (case aB => exact (by repeat (first | (with_reducible first | exact HB.out | apply below_alloc | apply pw_below_drewN | apply below_drew1 | refine below_set ?_ GE127.out) | exact HB.out)))
                    (case aF => exact (fun k_ hk => ⟨Kd.fresh' (Kd.R_lt (by (with_reducible repeat (first | apply Kd.R_alloc | apply Kd.R_drewN | apply Kd.R_drew)); exact HO131.out)) k_ hk, Kd.fresh' (Kd.R_lt (by (with_reducible repeat (first | apply Kd.R_alloc | apply Kd.R_drewN | apply Kd.R_drew)); exact HO137.out)) k_ hk, Kd.fresh' (Kd.R_lt (by (with_reducible repeat (first | apply Kd.R_alloc | apply Kd.R_drewN | apply Kd.R_drew)); exact HO143.out)) k_ hk, Kd.fresh' (Kd.R_lt (by (with_reducible repeat (first | apply Kd.R_alloc | apply Kd.R_drewN | apply Kd.R_drew)); exact HO155.out)) k_ hk⟩))
                    (case aO => exact (by (with_reducible repeat (first | apply Kd.R_alloc | apply Kd.R_drewN | apply Kd.R_drew)); exact Kd.R_mono HO152.out (fun _ hk => ⟨hk.1.1, ⟨hk.1.2.1, ⟨hk.1.2.2, hk.2⟩⟩⟩)))
                    (case aS => exact (below_size (by repeat (first | (with_reducible first | exact HB.out | apply below_alloc | apply pw_below_drewN | apply below_drew1 | refine below_set ?_ GE127.out) | exact HB.out))))
                    (case aL => have := LMc83.out; omega)
                    intro v157 w102 ho hb hg hat
                    rw [← Ny156.out] at ho
                    have n0_ := Aside0.mk (blk_grown (g := gb127) (o := .cells #[.string ((rd_T39 l0 x73_3).f0), .int .i64 ((rd_T39 l0 x73_3).f1), .bool false, .string ((rd_T39 l0 x73_3).f3)] 39 (0, 0)) (by (with_reducible repeat (first | refine blk_drewN ?_ _ | refine blk_drew ?_ | refine blk_alloc ?_ _)); exact BK127.out) hg (Kd.R_ne HO152.out BK127.out (by decide)))
                    have n1_ := Aside0.mk (Kd.R_after (ok := (fun k_ => some k_ ≠ (.slice Ao93 t135.length co93 : Value).ownBlock ∧ some k_ ≠ (.slice Ao97 t141.length co97 : Value).ownBlock ∧ some k_ ≠ (.slice Ao103 t153.length co103 : Value).ownBlock)) (by (with_reducible repeat (first | apply Kd.R_alloc | apply Kd.R_drewN | apply Kd.R_drew)); exact Kd.R_mono HO131.out (fun _ hk => ⟨⟨hk.1.1.1, ⟨hk.1.1.2, hk.2⟩⟩, hk.1.2⟩)) hg hat)
                    have n2_ := Aside0.mk (Kd.R_after (ok := (fun k_ => some k_ ≠ (.slice Ao90 t129.length co90 : Value).ownBlock ∧ some k_ ≠ (.slice Ao97 t141.length co97 : Value).ownBlock ∧ some k_ ≠ (.slice Ao103 t153.length co103 : Value).ownBlock)) (by (with_reducible repeat (first | apply Kd.R_alloc | apply Kd.R_drewN | apply Kd.R_drew)); exact Kd.R_mono HO137.out (fun _ hk => ⟨⟨hk.1.1.1, ⟨hk.1.1.2, hk.2⟩⟩, hk.1.2⟩)) hg hat)
                    have n3_ := Aside0.mk (Kd.R_after (ok := (fun k_ => some k_ ≠ (.slice Ao90 t129.length co90 : Value).ownBlock ∧ some k_ ≠ (.slice Ao93 t135.length co93 : Value).ownBlock ∧ some k_ ≠ (.slice Ao103 t153.length co103 : Value).ownBlock)) (by (with_reducible repeat (first | apply Kd.R_alloc | apply Kd.R_drewN | apply Kd.R_drew)); exact Kd.R_mono HO143.out (fun _ hk => ⟨⟨hk.1.1.1, ⟨hk.1.1.2, hk.2⟩⟩, hk.1.2⟩)) hg hat)
                    have n4_ := Aside0.mk (Kd.R_after (ok := (fun k_ => some k_ ≠ (.slice Ao90 t129.length co90 : Value).ownBlock ∧ some k_ ≠ (.slice Ao93 t135.length co93 : Value).ownBlock ∧ some k_ ≠ (.slice Ao97 t141.length co97 : Value).ownBlock)) (by (with_reducible repeat (first | apply Kd.R_alloc | apply Kd.R_drewN | apply Kd.R_drew)); exact Kd.R_mono HO155.out (fun _ hk => ⟨⟨hk.1.1.1.2, ⟨hk.1.1.2, hk.1.2⟩⟩, hk.2⟩)) hg hat)
                    have n5_ := Aside0.mk (hb)
                    have n6_ := Aside0.mk (ho)
                    clear BK127
                    clear HO131
                    clear HO137
                    clear HO143
                    clear HO155
                    clear HB
                    clear HO152
                    have BK127 := n0_
                    have HO131 := n1_
                    have HO137 := n2_
                    have HO143 := n3_
                    have HO155 := n4_
                    have HB := n5_
                    have HO158 := n6_
                    clear n0_ n1_ n2_ n3_ n4_ n5_ n6_
                    clear ho hb hg hat
                    refine hK.out _ _ ⟨(blk_cell BK127.out 0).trans rfl, (blk_cell BK127.out 1).trans rfl, (blk_cell BK127.out 2).trans rfl, (blk_cell BK127.out 3).trans rfl⟩ (fun hHeld => ?_)
                    clear hK K
                    refine norm_ (a' := ?_) ?_ ?_
                    rotate_left
                    ·
                     show Act.put _ (some 109) _ = _
                     simp only [Act.put, sa_, s0_, s1_, i64_w, i32_w]
                     rfl
                    refine pA_ 7 6 ?_ (b_ 8 255) (any_of HT_.out (by kernel_rfl)) rfl rfl (fun _ _ _ h => h) (by rfl) ?_ ?_ ?_ ?_
                    rotate_left
                    ·
                     intro w'
                     go_simp
                     with_reducible rfl
                    rotate_left
                    ·
                     simp only [Act.put, sa_, s0_, s1_, i64_w, i32_w]
                     rfl
                    refine done_ (done_of HT_.out (by kernel_rfl)) ?_
                    have hcz104_0 : w102.cell? ⟨gb127, 0, none⟩ = some (.string ((rd_T39 l0 x73_3).f0)) := (blk_cell BK127.out 0).trans rfl
                    have hcz104_1 : w102.cell? ⟨gb127, 1, none⟩ = some (.int .i64 ((rd_T39 l0 x73_3).f1)) := (blk_cell BK127.out 1).trans rfl
                    have hcz104_2 : w102.cell? ⟨gb127, 2, none⟩ = some (.bool false) := (blk_cell BK127.out 2).trans rfl
                    have hcz104_3 : w102.cell? ⟨gb127, 3, none⟩ = some (.string ((rd_T39 l0 x73_3).f3)) := (blk_cell BK127.out 3).trans rfl
                    have hfz104_0 := blk_frozen BK127.out 0
                    have hfz104_1 := blk_frozen BK127.out 1
                    have hfz104_2 := blk_frozen BK127.out 2
                    have hfz104_3 := blk_frozen BK127.out 3
                    try go_wp2
                    go_roundg k3
                    case measure => have := HJ1.out; have := HK2.out; have := HK3.out; omega
                    case rel => exact ⟨(y156), ((rd_T39 l0 x73_3).f0), (wrap64 (x73_3 + 1)), (by first | rfl | (simp; done) | (simp [*]; done)), (by first | rfl | (simp; done) | (simp [*]; done)), H', ⟨by have := HJ1.out; have := HK2.out; have := HK3.out; omega⟩, ⟨by (with_reducible repeat (first | apply Kd.R_alloc | apply Kd.R_drewN | apply Kd.R_drew)); exact Kd.R_mono HO158.out (fun _ hk => trivial)⟩, ⟨by repeat (first | (with_reducible first | exact HB.out | apply below_alloc | apply pw_below_drewN | apply below_drew1 | refine below_set ?_ GE127.out) | exact HB.out)⟩⟩
                   ·
                    rw [if_neg c83] at H
                    exact absurd H (by simp)
                  ·
                   rw [if_neg c81] at H
                   exact absurd H (by simp)
                ·
                 rw [if_neg c60] at H
                 exact absurd H (by simp)
               ·
                rw [if_neg c58] at H
                exact absurd H (by simp)
              ·
               rw [if_neg c56] at H
               exact absurd H (by simp)
             ·
              rw [if_neg c55] at H
              exact absurd H (by simp)
            ·
             rw [if_neg c54] at H
             exact absurd H (by simp)
           ·
            rw [if_neg c51] at H
            exact absurd H (by simp)
          ·
           rw [if_neg c50] at H
           exact absurd H (by simp)
         ·
          rw [if_neg c49] at H
          have c49b0 : decide (x73_3 < (l0.length : Int)) = false := decide_eq_false c49
          clear c49
          by_cases c105 : (x6_3.length : Int) > 2048
          ·
           rw [if_pos c105] at H
           have c105b0 : decide (2048 < (x6_3.length : Int)) = true := decide_eq_true c105
           have c105b1 : decide (2048 < x6_3.length) = true := decide_eq_true (by omega)
           clear c105
           simp only [Option.some.injEq, Prod.mk.injEq] at H
           obtain ⟨rfl, rfl⟩ := H
           obtain ⟨Ao106, co106, eo106⟩ := Kd.R_slice HO_6.out
           subst eo106
           go_wp2
           go_ret2
           exact ⟨_, by first | rfl | (simp [errW_none, errW_some] <;> rfl) | (simp [*, errW_none, errW_some] <;> rfl) | exact ret_ie _ | (simp [*, errW_none, errW_some, bne]; done), by first | exact Kd.R_nil _ _ _ _ _ | exact Kd.N_nil _ _ _ _ _ | exact Kd.V_nil _ _ _ _ _ | exact Kd.Q_nil _ _ _ _ _ | exact Kd.S_nil _ _ _ _ _, by repeat (first | (with_reducible first | exact HB.out | apply below_alloc | apply pw_below_drewN | apply below_drew1) | exact HB.out)⟩
          ·
           rw [if_neg c105] at H
           have c105b0 : decide (2048 < (x6_3.length : Int)) = false := decide_eq_false c105
           have c105b1 : decide (2048 < x6_3.length) = false := decide_eq_false (by omega)
           clear c105
           simp only [Option.some.injEq, Prod.mk.injEq] at H
           obtain ⟨rfl, rfl⟩ := H
           obtain ⟨Ao107, co107, eo107⟩ := Kd.R_slice HO_6.out
           subst eo107
           go_wp2
           go_ret2
           exact ⟨_, by first | rfl | (simp [errW_none, errW_some] <;> rfl) | (simp [*, errW_none, errW_some] <;> rfl) | exact ret_ie _ | (simp [*, errW_none, errW_some, bne]; done), by (with_reducible repeat (first | apply Kd.R_alloc | apply Kd.R_drewN | apply Kd.R_drew)); exact HO_6.out, by repeat (first | (with_reducible first | exact HB.out | apply below_alloc | apply pw_below_drewN | apply below_drew1) | exact HB.out)⟩

end Go.Proofs.Ytpalnbdcemmlnaa.R

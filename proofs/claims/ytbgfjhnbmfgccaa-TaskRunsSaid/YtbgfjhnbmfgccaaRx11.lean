/- Contracts of Go functions and what they come to, over the translation of this seat: made by a program of this session (print2.py). -/
import Derived.Test.YtbgfjhnbmfgccaaRx0
import Derived.Test.YtbgfjhnbmfgccaaRx4
import Derived.Test.YtbgfjhnbmfgccaaRx8
import Derived.Test.YtbgfjhnbmfgccaaRx10
namespace Go.Proofs.Ytbgfjhnbmfgccaa.R
open Go.RowKit Go.Proofs.Ytbgfjhnbmfgccaa.Co Go.Proofs.Ytbgfjhnbmfgccaa.Ret Go.Proofs.Ytbgfjhnbmfgccaa.Plain Go.Proofs.Ytbgfjhnbmfgccaa.Box Go.Proofs.YtbgfjhnbmfgccaaW.PrintWords Go.Proofs.YtbgfjhnbmfgccaaW.PrintLast Go.Proofs.YtbgfjhnbmfgccaaW.PrintMore
attribute [local go_sem] max2_int min2_int max_two min_two max_three min_three max_four min_four   -- for this text's walks alone
set_option linter.unusedVariables false
set_option linter.unusedSimpArgs false

/-! ### millhandlaw24_TaskRuns: function 4 -/
mutual
def millhandlaw24_TaskRuns.j0 : Nat → List (S37) → Bool → Bool → List Int → Int → Int → Int → Int → Int → Int → Int → Option (Bool)
 | 0, _, _, _, _, _, _, _, _, _, _, _ => none
 | k + 1, x2, x7, x33, x274000, x274001, x274002, x275000, x275001, x275002, x275003, x275004 => if x33 = true then (some x7) else (millhandlaw24_TaskRuns.l0 k x2 0 x275001 0 x274000 x274001 x274002 x275000 x275001 x275002 x275003 x275004)
def millhandlaw24_TaskRuns.l0 : Nat → List (S37) → Int → Int → Int → List Int → Int → Int → Int → Int → Int → Int → Int → Option (Bool)
 | 0, _, _, _, _, _, _, _, _, _, _, _, _ => none
 | k + 1, x2, x8, x9, x10, x274000, x274001, x274002, x275000, x275001, x275002, x275003, x275004 => if x10 < (x2.length : Int) then (if 0 ≤ x10 then ((millhandlaw24_step.f k x274000 x274001 x274002 x275000 x275001 x275002 x275003 x275004 ((rd_T37 x2 x10).f0) ((rd_T37 x2 x10).f1) ((rd_T37 x2 x10).f2)).bind fun bt280 => (if bt280.2.2.2.2.2 = true then ((task_Check.f k x274000 x274001 x274002 bt280.1 bt280.2.1 bt280.2.2.1 bt280.2.2.2.1 bt280.2.2.2.2.1).bind fun t288 => (if t288 = 0 then (if x275000 ≥ 4 then (millhandlaw24_TaskRuns.j2 k x2 x8 x9 x10 (Int.tmod ((rd_T37 x2 x10).f0) 8) true x274000 x274001 x274002 x275000 x275001 x275002 x275003 x275004 bt280.1 bt280.2.1 bt280.2.2.1 bt280.2.2.2.1 bt280.2.2.2.2.1) else (if (Int.tmod ((rd_T37 x2 x10).f0) 8) ≥ 2 then (if (Int.tmod ((rd_T37 x2 x10).f0) 8) ≤ 4 then (millhandlaw24_TaskRuns.j2 k x2 x8 x9 x10 (Int.tmod ((rd_T37 x2 x10).f0) 8) (x275003 != ((rd_T37 x2 x10).f1)) x274000 x274001 x274002 x275000 x275001 x275002 x275003 x275004 bt280.1 bt280.2.1 bt280.2.2.1 bt280.2.2.2.1 bt280.2.2.2.2.1) else (millhandlaw24_TaskRuns.j2 k x2 x8 x9 x10 (Int.tmod ((rd_T37 x2 x10).f0) 8) false x274000 x274001 x274002 x275000 x275001 x275002 x275003 x275004 bt280.1 bt280.2.1 bt280.2.2.1 bt280.2.2.2.1 bt280.2.2.2.2.1)) else (millhandlaw24_TaskRuns.j2 k x2 x8 x9 x10 (Int.tmod ((rd_T37 x2 x10).f0) 8) false x274000 x274001 x274002 x275000 x275001 x275002 x275003 x275004 bt280.1 bt280.2.1 bt280.2.2.1 bt280.2.2.2.1 bt280.2.2.2.2.1))) else (millhandlaw24_TaskRuns.j2 k x2 x8 x9 x10 (Int.tmod ((rd_T37 x2 x10).f0) 8) true x274000 x274001 x274002 x275000 x275001 x275002 x275003 x275004 bt280.1 bt280.2.1 bt280.2.2.1 bt280.2.2.2.1 bt280.2.2.2.2.1))) else (millhandlaw24_TaskRuns.l0 k x2 x8 x9 (wrap64 (x10 + 1)) x274000 x274001 x274002 x275000 x275001 x275002 x275003 x275004))) else (none)) else (if (wrap64 (x9 + x8)) = x275001 then (some (decide (x275001 ≤ x274001))) else (some false))
def millhandlaw24_TaskRuns.j2 : Nat → List (S37) → Int → Int → Int → Int → Bool → List Int → Int → Int → Int → Int → Int → Int → Int → Int → Int → Int → Int → Int → Option (Bool)
 | 0, _, _, _, _, _, _, _, _, _, _, _, _, _, _, _, _, _, _, _ => none
 | k + 1, x2, x8, x9, x10, x13, x98, x274000, x274001, x274002, x275000, x275001, x275002, x275003, x275004, x287000, x287001, x287002, x287003, x287004 => if x98 = true then (some false) else (if x13 = 1 then (if x287001 = x275001 then (millhandlaw24_TaskRuns.l0 k x2 (wrap64 (x8 + 1)) x9 (wrap64 (x10 + 1)) x274000 x274001 x274002 x287000 x287001 x287002 x287003 x287004) else (if x287001 = (wrap64 (x275001 + 1)) then (millhandlaw24_TaskRuns.l0 k x2 (wrap64 (x8 + 1)) x9 (wrap64 (x10 + 1)) x274000 x274001 x274002 x287000 x287001 x287002 x287003 x287004) else (some false))) else (if x287001 = x275001 then (millhandlaw24_TaskRuns.l0 k x2 x8 x9 (wrap64 (x10 + 1)) x274000 x274001 x274002 x287000 x287001 x287002 x287003 x287004) else (some false)))
end
def millhandlaw24_TaskRuns.f (k : Nat) (l0_0 : List Int) (a0_1 : Int) (a0_2 : Int) (a1_0 : Int) (a1_1 : Int) (a1_2 : Int) (a1_3 : Int) (a1_4 : Int) (l2 : List (S37)) : Option (Bool) := (millhandlaw24_alive.f k).bind fun t275 => (if (l0_0.length : Int) > 1000 then (millhandlaw24_TaskRuns.j0 k l2 t275 true l0_0 a0_1 a0_2 a1_0 a1_1 a1_2 a1_3 a1_4) else (if (l2.length : Int) > 200 then (millhandlaw24_TaskRuns.j0 k l2 t275 true l0_0 a0_1 a0_2 a1_0 a1_1 a1_2 a1_3 a1_4) else ((task_Check.f k l0_0 a0_1 a0_2 a1_0 a1_1 a1_2 a1_3 a1_4).bind fun t276 => (if t276 = 0 then (millhandlaw24_TaskRuns.j0 k l2 t275 (!t275) l0_0 a0_1 a0_2 a1_0 a1_1 a1_2 a1_3 a1_4) else (millhandlaw24_TaskRuns.j0 k l2 t275 true l0_0 a0_1 a0_2 a1_0 a1_1 a1_2 a1_3 a1_4)))))
theorem millhandlaw24_TaskRuns.mono_l : ∀ k, (∀ y0 y1 y2 y3 y4 y5 y6 y7 y8 y9 y10, LeO (millhandlaw24_TaskRuns.j0 k y0 y1 y2 y3 y4 y5 y6 y7 y8 y9 y10) (millhandlaw24_TaskRuns.j0 (k + 1) y0 y1 y2 y3 y4 y5 y6 y7 y8 y9 y10)) ∧ (∀ y0 y1 y2 y3 y4 y5 y6 y7 y8 y9 y10 y11, LeO (millhandlaw24_TaskRuns.l0 k y0 y1 y2 y3 y4 y5 y6 y7 y8 y9 y10 y11) (millhandlaw24_TaskRuns.l0 (k + 1) y0 y1 y2 y3 y4 y5 y6 y7 y8 y9 y10 y11)) ∧ (∀ y0 y1 y2 y3 y4 y5 y6 y7 y8 y9 y10 y11 y12 y13 y14 y15 y16 y17 y18, LeO (millhandlaw24_TaskRuns.j2 k y0 y1 y2 y3 y4 y5 y6 y7 y8 y9 y10 y11 y12 y13 y14 y15 y16 y17 y18) (millhandlaw24_TaskRuns.j2 (k + 1) y0 y1 y2 y3 y4 y5 y6 y7 y8 y9 y10 y11 y12 y13 y14 y15 y16 y17 y18))
 | 0 => ⟨fun _ _ _ _ _ _ _ _ _ _ _ r h => by simp [millhandlaw24_TaskRuns.j0] at h, fun _ _ _ _ _ _ _ _ _ _ _ _ r h => by simp [millhandlaw24_TaskRuns.l0] at h, fun _ _ _ _ _ _ _ _ _ _ _ _ _ _ _ _ _ _ _ r h => by simp [millhandlaw24_TaskRuns.j2] at h⟩
 | k + 1 => by
  obtain ⟨ih0, ih1, ih2⟩ := millhandlaw24_TaskRuns.mono_l k
  refine ⟨?_, ?_, ?_⟩
  ·
   intro y0 y1 y2 y3 y4 y5 y6 y7 y8 y9 y10
   unfold millhandlaw24_TaskRuns.j0
   repeat' first
   | (with_reducible exact ih0 _ _ _ _ _ _ _ _ _ _ _)
   | (with_reducible exact ih1 _ _ _ _ _ _ _ _ _ _ _ _)
   | (with_reducible exact ih2 _ _ _ _ _ _ _ _ _ _ _ _ _ _ _ _ _ _ _)
   | (with_reducible exact millhandlaw24_alive.mono _)
   | (with_reducible exact millhandlaw24_step.mono _ _ _ _ _ _ _ _ _ _ _ _)
   | (with_reducible exact task_Check.mono _ _ _ _ _ _ _ _ _)
   | (with_reducible exact LeO.refl _)
   | (with_reducible exact LeO.none _)
   | (with_reducible refine LeO.ite ?_ ?_)
   | (with_reducible refine LeO.bind ?_ (fun _ => ?_))
   | exact ih0 _ _ _ _ _ _ _ _ _ _ _
   | exact ih1 _ _ _ _ _ _ _ _ _ _ _ _
   | exact ih2 _ _ _ _ _ _ _ _ _ _ _ _ _ _ _ _ _ _ _
   | exact millhandlaw24_alive.mono _
   | exact millhandlaw24_step.mono _ _ _ _ _ _ _ _ _ _ _ _
   | exact task_Check.mono _ _ _ _ _ _ _ _ _
   | exact LeO.none _
   | refine LeO.ite ?_ ?_
   | refine LeO.bind ?_ (fun _ => ?_)
  ·
   intro y0 y1 y2 y3 y4 y5 y6 y7 y8 y9 y10 y11
   unfold millhandlaw24_TaskRuns.l0
   repeat' first
   | (with_reducible exact ih0 _ _ _ _ _ _ _ _ _ _ _)
   | (with_reducible exact ih1 _ _ _ _ _ _ _ _ _ _ _ _)
   | (with_reducible exact ih2 _ _ _ _ _ _ _ _ _ _ _ _ _ _ _ _ _ _ _)
   | (with_reducible exact millhandlaw24_alive.mono _)
   | (with_reducible exact millhandlaw24_step.mono _ _ _ _ _ _ _ _ _ _ _ _)
   | (with_reducible exact task_Check.mono _ _ _ _ _ _ _ _ _)
   | (with_reducible exact LeO.refl _)
   | (with_reducible exact LeO.none _)
   | (with_reducible refine LeO.ite ?_ ?_)
   | (with_reducible refine LeO.bind ?_ (fun _ => ?_))
   | exact ih0 _ _ _ _ _ _ _ _ _ _ _
   | exact ih1 _ _ _ _ _ _ _ _ _ _ _ _
   | exact ih2 _ _ _ _ _ _ _ _ _ _ _ _ _ _ _ _ _ _ _
   | exact millhandlaw24_alive.mono _
   | exact millhandlaw24_step.mono _ _ _ _ _ _ _ _ _ _ _ _
   | exact task_Check.mono _ _ _ _ _ _ _ _ _
   | exact LeO.none _
   | refine LeO.ite ?_ ?_
   | refine LeO.bind ?_ (fun _ => ?_)
  ·
   intro y0 y1 y2 y3 y4 y5 y6 y7 y8 y9 y10 y11 y12 y13 y14 y15 y16 y17 y18
   unfold millhandlaw24_TaskRuns.j2
   repeat' first
   | (with_reducible exact ih0 _ _ _ _ _ _ _ _ _ _ _)
   | (with_reducible exact ih1 _ _ _ _ _ _ _ _ _ _ _ _)
   | (with_reducible exact ih2 _ _ _ _ _ _ _ _ _ _ _ _ _ _ _ _ _ _ _)
   | (with_reducible exact millhandlaw24_alive.mono _)
   | (with_reducible exact millhandlaw24_step.mono _ _ _ _ _ _ _ _ _ _ _ _)
   | (with_reducible exact task_Check.mono _ _ _ _ _ _ _ _ _)
   | (with_reducible exact LeO.refl _)
   | (with_reducible exact LeO.none _)
   | (with_reducible refine LeO.ite ?_ ?_)
   | (with_reducible refine LeO.bind ?_ (fun _ => ?_))
   | exact ih0 _ _ _ _ _ _ _ _ _ _ _
   | exact ih1 _ _ _ _ _ _ _ _ _ _ _ _
   | exact ih2 _ _ _ _ _ _ _ _ _ _ _ _ _ _ _ _ _ _ _
   | exact millhandlaw24_alive.mono _
   | exact millhandlaw24_step.mono _ _ _ _ _ _ _ _ _ _ _ _
   | exact task_Check.mono _ _ _ _ _ _ _ _ _
   | exact LeO.none _
   | refine LeO.ite ?_ ?_
   | refine LeO.bind ?_ (fun _ => ?_)
theorem millhandlaw24_TaskRuns.mono : ∀ a0 a1 a2 a3 a4 a5 a6 a7 a8 k, LeO (millhandlaw24_TaskRuns.f k a0 a1 a2 a3 a4 a5 a6 a7 a8) (millhandlaw24_TaskRuns.f (k + 1) a0 a1 a2 a3 a4 a5 a6 a7 a8) := by
 intro a0 a1 a2 a3 a4 a5 a6 a7 a8 k
 obtain ⟨ih0, ih1, ih2⟩ := millhandlaw24_TaskRuns.mono_l k
 unfold millhandlaw24_TaskRuns.f
 repeat' first
   | (with_reducible exact ih0 _ _ _ _ _ _ _ _ _ _ _)
   | (with_reducible exact ih1 _ _ _ _ _ _ _ _ _ _ _ _)
   | (with_reducible exact ih2 _ _ _ _ _ _ _ _ _ _ _ _ _ _ _ _ _ _ _)
   | (with_reducible exact millhandlaw24_alive.mono _)
   | (with_reducible exact millhandlaw24_step.mono _ _ _ _ _ _ _ _ _ _ _ _)
   | (with_reducible exact task_Check.mono _ _ _ _ _ _ _ _ _)
   | (with_reducible exact LeO.refl _)
   | (with_reducible exact LeO.none _)
   | (with_reducible refine LeO.ite ?_ ?_)
   | (with_reducible refine LeO.bind ?_ (fun _ => ?_))
   | exact ih0 _ _ _ _ _ _ _ _ _ _ _
   | exact ih1 _ _ _ _ _ _ _ _ _ _ _ _
   | exact ih2 _ _ _ _ _ _ _ _ _ _ _ _ _ _ _ _ _ _ _
   | exact millhandlaw24_alive.mono _
   | exact millhandlaw24_step.mono _ _ _ _ _ _ _ _ _ _ _ _
   | exact task_Check.mono _ _ _ _ _ _ _ _ _
   | exact LeO.none _
   | refine LeO.ite ?_ ?_
   | refine LeO.bind ?_ (fun _ => ?_)
def millhandlaw24_TaskRuns.T9 : Bool × List (List Nat × List Nat) := (true, [([], []), ([], []), ([], []), ([], []), ([2, 3], [2, 3]), ([4], [4]), ([5], [5]), ([], []), ([], []), ([7, 8], [7, 8]), ([9], [9]), ([10], [10]), ([], []), ([], []), ([12, 13], [12, 13]), ([14], [14]), ([15], [15]), ([0, 1, 6, 11, 16], [0, 1, 6, 11, 16]), ([17], [17]), ([18], [18]), ([18], [18]), ([], []), ([21, 19, 17, 0, 1, 2, 3, 4, 5, 6, 7, 8, 9, 10, 11, 12, 13, 14, 15, 16, 17, 18, 19, 21], [19, 21]), ([20, 22, 0, 1, 2, 3, 4, 5, 6, 7, 8, 9, 10, 11, 12, 13, 14, 15, 16, 17, 18, 19, 20, 21, 22], [20])])
def millhandlaw24_TaskRuns.B9 : List Nat := [0, 0, 0, 0, 12, 28, 60, 0, 0, 384, 896, 1920, 0, 0, 12288, 28672, 61440, 131071, 262143, 524287, 524287, 0, 3145727, 8388607]
theorem millhandlaw24_TaskRuns.tab9 : rtab .any (opsOf Try.f4 9) = millhandlaw24_TaskRuns.T9 := by kernel_rfl
theorem millhandlaw24_TaskRuns.bits9 : waitsOk millhandlaw24_TaskRuns.T9.2 millhandlaw24_TaskRuns.B9 = true := by kernel_rfl
def millhandlaw24_TaskRuns.T12 : Bool × List (List Nat × List Nat) := (true, [([], []), ([], []), ([0, 1], [0, 1]), ([2], [2]), ([3, 2], [3]), ([4], [4]), ([5, 4], [4, 5]), ([6, 4], [4, 6]), ([4, 7], [4, 7]), ([8, 4], [8]), ([9], [9]), ([10, 9], [9, 10]), ([11, 9, 9], [9, 11]), ([12], [12]), ([13, 12], [12, 13]), ([12, 14, 9], [9, 12, 14]), ([15, 12, 9], [9, 15]), ([16], [16]), ([17, 16], [16, 17]), ([16], [16]), ([16], [16]), ([19, 20, 16], [16, 19, 20]), ([21, 16], [16, 21]), ([22, 16], [16, 22]), ([18, 23, 16], [16, 18, 23]), ([16, 24, 9], [9, 16, 24]), ([9, 25], [9, 25])])
def millhandlaw24_TaskRuns.B12 : List Nat := [0, 0, 3, 7, 15, 31, 63, 127, 255, 511, 1023, 2047, 4095, 8191, 16383, 32767, 65535, 131071, 262143, 131071, 131071, 1703935, 3801087, 7995391, 16777215, 33554431, 67108863]
theorem millhandlaw24_TaskRuns.tab12 : rtab .any (opsOf Try.f4 12) = millhandlaw24_TaskRuns.T12 := by kernel_rfl
theorem millhandlaw24_TaskRuns.bits12 : waitsOk millhandlaw24_TaskRuns.T12.2 millhandlaw24_TaskRuns.B12 = true := by kernel_rfl
theorem TaskRuns_j2 {k : Nat} {a : List S37} {b c d e : Int} {f : List Int} {g h i j l m n o p q r s : Int} {z : Bool} (hh : millhandlaw24_TaskRuns.j2 k a b c d e true f g h i j l m n o p q r s = some z) : z = false := by
 cases k with
 | zero => simp [millhandlaw24_TaskRuns.j2] at hh
 | succ k =>
  simp only [millhandlaw24_TaskRuns.j2] at hh
  first | exact (Option.some.inj hh).symm | (rw [if_pos rfl] at hh; exact (Option.some.inj hh).symm) | simpa using hh.symm
set_option maxHeartbeats 8000000 in
set_option maxRecDepth 100000 in
theorem millhandlaw24_TaskRuns.calls (k : Nat) (A0_0 : Option Addr) (c0_0 : Nat) (l0_0 : List Int) (a0_1 : Int) (a0_2 : Int) (a1_0 : Int) (a1_1 : Int) (a1_2 : Int) (a1_3 : Int) (a1_4 : Int) (A2 : Option Addr) (c2 : Nat) (l2 : List (S37)) (r : Bool) (w : World) (hr0_0 : Kd.C (Kd.int .i64) w A0_0 l0_0.length l0_0) (hc0_0 : l0_0.length ≤ c0_0) (hr2 : Kd.C k37 w A2 l2.length l2) (hc2 : l2.length ≤ c2) (h : millhandlaw24_TaskRuns.f k l0_0 a0_1 a0_2 a1_0 a1_1 a1_2 a1_3 a1_4 l2 = some r) (hr : r = true) :
  Calls Try.prog 4 #[.agg #[.slice A0_0 l0_0.length c0_0, .int .i64 a0_1, .int .i64 a0_2], .agg #[.int .u8 a1_0, .int .i64 a1_1, .int .i64 a1_2, .int .i64 a1_3, .int .i64 a1_4], .slice A2 l2.length c2] w fun e w' => e = .returned (.bool r) ∧ Below w.heap.size w w' := by
 have hu24 := Try.underlying24
 have hu31 := Try.underlying31
 have HR0_0 := Aside0.mk hr0_0
 have HC0_0 := Aside0.mk hc0_0
 clear hr0_0 hc0_0
 have HR2 := Aside0.mk hr2
 have HC2 := Aside0.mk hc2
 clear hr2 hc2
 have HB := Aside0.mk (Below.refl w.heap.size w)
 have H : ((millhandlaw24_alive.f k).bind fun t275 => (if (l0_0.length : Int) > 1000 then (millhandlaw24_TaskRuns.j0 k l2 t275 true l0_0 a0_1 a0_2 a1_0 a1_1 a1_2 a1_3 a1_4) else (if (l2.length : Int) > 200 then (millhandlaw24_TaskRuns.j0 k l2 t275 true l0_0 a0_1 a0_2 a1_0 a1_1 a1_2 a1_3 a1_4) else ((task_Check.f k l0_0 a0_1 a0_2 a1_0 a1_1 a1_2 a1_3 a1_4).bind fun t276 => (if t276 = 0 then (millhandlaw24_TaskRuns.j0 k l2 t275 (!t275) l0_0 a0_1 a0_2 a1_0 a1_1 a1_2 a1_3 a1_4) else (millhandlaw24_TaskRuns.j0 k l2 t275 true l0_0 a0_1 a0_2 a1_0 a1_1 a1_2 a1_3 a1_4)))))) = some r := h
 clear h
 replace H := Option.bind_eq_some_iff.mp H
 obtain ⟨t275, A40, H⟩ := H
 replace H : (if (l0_0.length : Int) > 1000 then (millhandlaw24_TaskRuns.j0 k l2 t275 true l0_0 a0_1 a0_2 a1_0 a1_1 a1_2 a1_3 a1_4) else (if (l2.length : Int) > 200 then (millhandlaw24_TaskRuns.j0 k l2 t275 true l0_0 a0_1 a0_2 a1_0 a1_1 a1_2 a1_3 a1_4) else ((task_Check.f k l0_0 a0_1 a0_2 a1_0 a1_1 a1_2 a1_3 a1_4).bind fun t276 => (if t276 = 0 then (millhandlaw24_TaskRuns.j0 k l2 t275 (!t275) l0_0 a0_1 a0_2 a1_0 a1_1 a1_2 a1_3 a1_4) else (millhandlaw24_TaskRuns.j0 k l2 t275 true l0_0 a0_1 a0_2 a1_0 a1_1 a1_2 a1_3 a1_4))))) = some r := H
 have A4 := Aside0.mk A40
 clear A40
 have HC5 := Aside0.mk H
 clear H
 go_enter Try.func4, Try.ntmps4
 go_upto_region 2 with (first | ((with_reducible refine gate_dst (N := 3) rfl ?_); (try (refine gate_guard (by rfl) ?_; dsimp only)); refine box_event ?hg (N := 3) ?hd (cs := #[.slice A0_0 l0_0.length c0_0, .int .i64 a0_1, .int .i64 a0_2]) (t := 24) ?hr ?_; (case hd => rfl); (case hg => rfl); (case hr => first | (go_simp; done) | (go_simp; rfl)); intro gb273 hg w6 hbox hb; have n0_ := Aside0.mk (below_step (by repeat (first | (with_reducible first | exact HB.out | apply below_alloc | apply pw_below_drewN | apply below_drew1) | exact HB.out)) hb); have n1_ := Aside0.mk (hbox); have n2_ := Aside0.mk ((by rw [hg]; exact (below_size (by repeat (first | (with_reducible first | exact HB.out | apply below_alloc | apply pw_below_drewN | apply below_drew1) | exact HB.out))) : w.heap.size ≤ gb273)); have n3_ := Aside0.mk ((by rw [hg]; exact (below_size (by repeat (first | (with_reducible first | exact HB.out | apply below_alloc | apply pw_below_drewN | apply below_drew1) | exact HB.out))) : w.heap.size ≤ gb273)); clear HB; have HB := n0_; have BK273 := n1_; have GW273 := n2_; have GE273 := n3_; clear n0_ n1_ n2_ n3_; clear hb hbox hg) | ((with_reducible refine gate_dst (N := 4) rfl ?_); (try (refine gate_guard (by rfl) ?_; dsimp only)); refine box_event ?hg (N := 4) ?hd (cs := #[.int .u8 a1_0, .int .i64 a1_1, .int .i64 a1_2, .int .i64 a1_3, .int .i64 a1_4]) (t := 31) ?hr ?_; (case hd => rfl); (case hg => rfl); (case hr => first | (go_simp; done) | (go_simp; rfl)); intro gb274 hg w7 hbox hb; have n0_ := Aside0.mk (blk_below (g := gb273) (o := .cells #[.slice A0_0 l0_0.length c0_0, .int .i64 a0_1, .int .i64 a0_2] 24 (0, 0)) (by (with_reducible repeat (first | refine blk_drewN ?_ _ | refine blk_drew ?_ | refine blk_alloc ?_ _)); exact BK273.out) hb); have n1_ := Aside0.mk (below_step (by repeat (first | (with_reducible first | exact HB.out | apply below_alloc | apply pw_below_drewN | apply below_drew1 | refine below_set ?_ GE273.out) | exact HB.out)) hb); have n2_ := Aside0.mk (hbox); have n3_ := Aside0.mk ((by rw [hg]; exact (below_size (by repeat (first | (with_reducible first | exact HB.out | apply below_alloc | apply pw_below_drewN | apply below_drew1 | refine below_set ?_ GE273.out) | exact HB.out))) : w.heap.size ≤ gb274)); have n4_ := Aside0.mk ((by rw [hg]; exact (below_size (by repeat (first | (with_reducible first | exact HB.out | apply below_alloc | apply pw_below_drewN | apply below_drew1 | refine below_set ?_ GE273.out) | exact HB.out))) : w.heap.size ≤ gb274)); have n5_ := Aside0.mk ((by rw [hg]; exact Nat.ne_of_lt (blk_lt (g := gb273) (o := .cells #[.slice A0_0 l0_0.length c0_0, .int .i64 a0_1, .int .i64 a0_2] 24 (0, 0)) (by (with_reducible repeat (first | refine blk_drewN ?_ _ | refine blk_drew ?_ | refine blk_alloc ?_ _)); exact BK273.out)) : gb273 ≠ gb274)); have n6_ := Aside0.mk ((by rw [hg]; exact Nat.ne_of_gt (blk_lt (g := gb273) (o := .cells #[.slice A0_0 l0_0.length c0_0, .int .i64 a0_1, .int .i64 a0_2] 24 (0, 0)) (by (with_reducible repeat (first | refine blk_drewN ?_ _ | refine blk_drew ?_ | refine blk_alloc ?_ _)); exact BK273.out)) : gb274 ≠ gb273)); clear BK273; clear HB; have BK273 := n0_; have HB := n1_; have BK274 := n2_; have GW274 := n3_; have GE274 := n4_; have NB273_274 := n5_; have NB274_273 := n6_; clear n0_ n1_ n2_ n3_ n4_ n5_ n6_; clear hb hbox hg) | ((with_reducible refine gate_callee (f := 7) rfl ?_); refine goesL_ (some 14) rfl rfl Try.func7 (by kernel_rfl) rfl #[] rfl (by (try simp only [List.map_toArray, List.map_cons, List.map_nil]); first | done | rfl | (simp only [List.length_drop, List.length_take]; rfl)) ?_; (with_reducible refine (millhandlaw24_alive.calls k  t275 _ A4.out).mono ?_); rintro e w8 ⟨rfl, hb⟩; refine ⟨_, rfl, ?_⟩; have n0_ := Aside0.mk (blk_below (g := gb273) (o := .cells #[.slice A0_0 l0_0.length c0_0, .int .i64 a0_1, .int .i64 a0_2] 24 (0, 0)) (by (with_reducible repeat (first | refine blk_drewN ?_ _ | refine blk_drew ?_ | refine blk_alloc ?_ _)); exact BK273.out) hb); have n1_ := Aside0.mk (blk_below (g := gb274) (o := .cells #[.int .u8 a1_0, .int .i64 a1_1, .int .i64 a1_2, .int .i64 a1_3, .int .i64 a1_4] 31 (0, 0)) (by (with_reducible repeat (first | refine blk_drewN ?_ _ | refine blk_drew ?_ | refine blk_alloc ?_ _)); exact BK274.out) hb); have n2_ := Aside0.mk (below_step (by repeat (first | (with_reducible first | exact HB.out | apply below_alloc | apply pw_below_drewN | apply below_drew1 | refine below_set ?_ GE273.out | refine below_set ?_ GE274.out) | exact HB.out)) hb); clear BK273; clear BK274; clear HB; have BK273 := n0_; have BK274 := n1_; have HB := n2_; clear n0_ n1_ n2_; (try clear hb); (try clear hb2); (try clear hk); (try clear hi)))
 (try simp only [Act.put, sa_, s0_, s1_])
 go_cut [33] (fun v33 wc => ∃ (kq : Nat) (x33_4 : Bool), v33 = .bool x33_4 ∧ Aside0 (millhandlaw24_TaskRuns.j0 kq l2 t275 x33_4 l0_0 a0_1 a0_2 a1_0 a1_1 a1_2 a1_3 a1_4 = some r) ∧ Aside0 (kq ≤ k) ∧ Aside0 (wc.heap[gb273]? = some (.cells #[(.slice A0_0 l0_0.length c0_0), .int .i64 a0_1, .int .i64 a0_2] 24 (0, 0))) ∧ Aside0 (wc.heap[gb274]? = some (.cells #[.int .u8 a1_0, .int .i64 a1_1, .int .i64 a1_2, .int .i64 a1_3, .int .i64 a1_4] 31 (0, 0))) ∧ Aside0 (Below w.heap.size w wc))
 case first =>
  have H := HC5.out
  clear HC5
  by_cases c9 : (l0_0.length : Int) > 1000
  ·
   rw [if_pos c9] at H
   have c9b0 : decide (1000 < (l0_0.length : Int)) = true := decide_eq_true c9
   have c9b1 : decide (1000 < l0_0.length) = true := decide_eq_true (by omega)
   clear c9
   (first | rw [c9b0] | (simp only [i64_w, i32_w]; rw [c9b0]) | skip)
   have H' := Aside0.mk H
   clear H
   have hnb10 := NB273_274.out
   have hnc10 := NB274_273.out
   have hcz11_0 : w8.cell? ⟨gb273, 0, none⟩ = some (.slice A0_0 l0_0.length c0_0) := (blk_cell BK273.out 0).trans rfl
   have hcz11_1 : w8.cell? ⟨gb273, 1, none⟩ = some (.int .i64 a0_1) := (blk_cell BK273.out 1).trans rfl
   have hcz11_2 : w8.cell? ⟨gb273, 2, none⟩ = some (.int .i64 a0_2) := (blk_cell BK273.out 2).trans rfl
   have hfz11_0 := blk_frozen BK273.out 0
   have hfz11_1 := blk_frozen BK273.out 1
   have hfz11_2 := blk_frozen BK273.out 2
   go_wp2
   go_meet
   case rel => exact ⟨_, (true), (by first | rfl | (simp; done) | (simp [*]; done)), H', ⟨by first | omega | exact Nat.le_refl _⟩, ⟨by (with_reducible repeat (first | refine blk_drewN ?_ _ | refine blk_drew ?_ | refine blk_alloc ?_ _)); exact BK273.out⟩, ⟨by (with_reducible repeat (first | refine blk_drewN ?_ _ | refine blk_drew ?_ | refine blk_alloc ?_ _)); exact BK274.out⟩, ⟨by repeat (first | (with_reducible first | exact HB.out | apply below_alloc | apply pw_below_drewN | apply below_drew1 | refine below_set ?_ GE273.out | refine below_set ?_ GE274.out) | exact HB.out)⟩⟩
  ·
   rw [if_neg c9] at H
   have c9b0 : decide (1000 < (l0_0.length : Int)) = false := decide_eq_false c9
   have c9b1 : decide (1000 < l0_0.length) = false := decide_eq_false (by omega)
   clear c9
   (first | rw [c9b0] | (simp only [i64_w, i32_w]; rw [c9b0]) | skip)
   by_cases c12 : (l2.length : Int) > 200
   ·
    rw [if_pos c12] at H
    have c12b0 : decide (200 < (l2.length : Int)) = true := decide_eq_true c12
    have c12b1 : decide (200 < l2.length) = true := decide_eq_true (by omega)
    clear c12
    have H' := Aside0.mk H
    clear H
    have hnb13 := NB273_274.out
    have hnc13 := NB274_273.out
    have hcz14_0 : w8.cell? ⟨gb273, 0, none⟩ = some (.slice A0_0 l0_0.length c0_0) := (blk_cell BK273.out 0).trans rfl
    have hcz14_1 : w8.cell? ⟨gb273, 1, none⟩ = some (.int .i64 a0_1) := (blk_cell BK273.out 1).trans rfl
    have hcz14_2 : w8.cell? ⟨gb273, 2, none⟩ = some (.int .i64 a0_2) := (blk_cell BK273.out 2).trans rfl
    have hfz14_0 := blk_frozen BK273.out 0
    have hfz14_1 := blk_frozen BK273.out 1
    have hfz14_2 := blk_frozen BK273.out 2
    go_wp2
    go_meet
    case rel => exact ⟨_, (true), (by first | rfl | (simp; done) | (simp [*]; done)), H', ⟨by first | omega | exact Nat.le_refl _⟩, ⟨by (with_reducible repeat (first | refine blk_drewN ?_ _ | refine blk_drew ?_ | refine blk_alloc ?_ _)); exact BK273.out⟩, ⟨by (with_reducible repeat (first | refine blk_drewN ?_ _ | refine blk_drew ?_ | refine blk_alloc ?_ _)); exact BK274.out⟩, ⟨by repeat (first | (with_reducible first | exact HB.out | apply below_alloc | apply pw_below_drewN | apply below_drew1 | refine below_set ?_ GE273.out | refine below_set ?_ GE274.out) | exact HB.out)⟩⟩
   ·
    rw [if_neg c12] at H
    have c12b0 : decide (200 < (l2.length : Int)) = false := decide_eq_false c12
    have c12b1 : decide (200 < l2.length) = false := decide_eq_false (by omega)
    clear c12
    replace H := Option.bind_eq_some_iff.mp H
    obtain ⟨t276, A150, H⟩ := H
    replace H : (if t276 = 0 then (millhandlaw24_TaskRuns.j0 k l2 t275 (!t275) l0_0 a0_1 a0_2 a1_0 a1_1 a1_2 a1_3 a1_4) else (millhandlaw24_TaskRuns.j0 k l2 t275 true l0_0 a0_1 a0_2 a1_0 a1_1 a1_2 a1_3 a1_4)) = some r := H
    have A15 := Aside0.mk A150
    clear A150
    by_cases c16 : t276 = 0
    ·
     rw [if_pos c16] at H
     have c16b0 : (t276 == 0) = true := beq_iff_eq.mpr c16
     have c16b1 : (t276 != 0) = false := bne_eq_false_iff_eq.mpr c16
     clear c16
     have H' := Aside0.mk H
     clear H
     have hnb17 := NB273_274.out
     have hnc17 := NB274_273.out
     have hcz18_0 : w8.cell? ⟨gb273, 0, none⟩ = some (.slice A0_0 l0_0.length c0_0) := (blk_cell BK273.out 0).trans rfl
     have hcz18_1 : w8.cell? ⟨gb273, 1, none⟩ = some (.int .i64 a0_1) := (blk_cell BK273.out 1).trans rfl
     have hcz18_2 : w8.cell? ⟨gb273, 2, none⟩ = some (.int .i64 a0_2) := (blk_cell BK273.out 2).trans rfl
     have hfz18_0 := blk_frozen BK273.out 0
     have hfz18_1 := blk_frozen BK273.out 1
     have hfz18_2 := blk_frozen BK273.out 2
     have hcz19_0 : w8.cell? ⟨gb274, 0, none⟩ = some (.int .u8 a1_0) := (blk_cell BK274.out 0).trans rfl
     have hcz19_1 : w8.cell? ⟨gb274, 1, none⟩ = some (.int .i64 a1_1) := (blk_cell BK274.out 1).trans rfl
     have hcz19_2 : w8.cell? ⟨gb274, 2, none⟩ = some (.int .i64 a1_2) := (blk_cell BK274.out 2).trans rfl
     have hcz19_3 : w8.cell? ⟨gb274, 3, none⟩ = some (.int .i64 a1_3) := (blk_cell BK274.out 3).trans rfl
     have hcz19_4 : w8.cell? ⟨gb274, 4, none⟩ = some (.int .i64 a1_4) := (blk_cell BK274.out 4).trans rfl
     have hfz19_0 := blk_frozen BK274.out 0
     have hfz19_1 := blk_frozen BK274.out 1
     have hfz19_2 := blk_frozen BK274.out 2
     have hfz19_3 := blk_frozen BK274.out 3
     have hfz19_4 := blk_frozen BK274.out 4
     go_wp2_with (first | (go_at_call 9; (with_reducible refine (task_Check.calls k _ _ l0_0 a0_1 a0_2 a1_0 a1_1 a1_2 a1_3 a1_4 t276 _ ?side1 ?side2 A15.out).mono ?_); (case side1 => repeat (first | exact (Kd.C_below HR0_0.out HB.out) | (with_reducible refine Kd.C_alloc ?_ _) | (with_reducible refine Kd.C_drewN ?_ _) | (with_reducible refine Kd.C_drew ?_))); (case side2 => exact HC0_0.out); rintro e w20 ⟨rfl, hb⟩; have n0_ := Aside0.mk (blk_below (g := gb273) (o := .cells #[.slice A0_0 l0_0.length c0_0, .int .i64 a0_1, .int .i64 a0_2] 24 (0, 0)) (by (with_reducible repeat (first | refine blk_drewN ?_ _ | refine blk_drew ?_ | refine blk_alloc ?_ _)); exact BK273.out) hb); have n1_ := Aside0.mk (blk_below (g := gb274) (o := .cells #[.int .u8 a1_0, .int .i64 a1_1, .int .i64 a1_2, .int .i64 a1_3, .int .i64 a1_4] 31 (0, 0)) (by (with_reducible repeat (first | refine blk_drewN ?_ _ | refine blk_drew ?_ | refine blk_alloc ?_ _)); exact BK274.out) hb); have n2_ := Aside0.mk (below_step (by repeat (first | (with_reducible first | exact HB.out | apply below_alloc | apply pw_below_drewN | apply below_drew1 | refine below_set ?_ GE273.out | refine below_set ?_ GE274.out) | exact HB.out)) hb); clear BK273; clear BK274; clear HB; have BK273 := n0_; have BK274 := n1_; have HB := n2_; clear n0_ n1_ n2_; (try clear hb); (try clear hb2); (try clear hk); (try clear hi)))
     go_meet
     case rel => exact ⟨_, (!t275), (by first | rfl | (simp; done) | (simp [*]; done)), H', ⟨by first | omega | exact Nat.le_refl _⟩, ⟨by (with_reducible repeat (first | refine blk_drewN ?_ _ | refine blk_drew ?_ | refine blk_alloc ?_ _)); exact BK273.out⟩, ⟨by (with_reducible repeat (first | refine blk_drewN ?_ _ | refine blk_drew ?_ | refine blk_alloc ?_ _)); exact BK274.out⟩, ⟨by repeat (first | (with_reducible first | exact HB.out | apply below_alloc | apply pw_below_drewN | apply below_drew1 | refine below_set ?_ GE273.out | refine below_set ?_ GE274.out) | exact HB.out)⟩⟩
    ·
     rw [if_neg c16] at H
     have c16b0 : (t276 == 0) = false := beq_eq_false_iff_ne.mpr c16
     have c16b1 : (t276 != 0) = true := bne_iff_ne.mpr c16
     have H' := Aside0.mk H
     clear H
     have hnb21 := NB273_274.out
     have hnc21 := NB274_273.out
     have hcz22_0 : w8.cell? ⟨gb273, 0, none⟩ = some (.slice A0_0 l0_0.length c0_0) := (blk_cell BK273.out 0).trans rfl
     have hcz22_1 : w8.cell? ⟨gb273, 1, none⟩ = some (.int .i64 a0_1) := (blk_cell BK273.out 1).trans rfl
     have hcz22_2 : w8.cell? ⟨gb273, 2, none⟩ = some (.int .i64 a0_2) := (blk_cell BK273.out 2).trans rfl
     have hfz22_0 := blk_frozen BK273.out 0
     have hfz22_1 := blk_frozen BK273.out 1
     have hfz22_2 := blk_frozen BK273.out 2
     have hcz23_0 : w8.cell? ⟨gb274, 0, none⟩ = some (.int .u8 a1_0) := (blk_cell BK274.out 0).trans rfl
     have hcz23_1 : w8.cell? ⟨gb274, 1, none⟩ = some (.int .i64 a1_1) := (blk_cell BK274.out 1).trans rfl
     have hcz23_2 : w8.cell? ⟨gb274, 2, none⟩ = some (.int .i64 a1_2) := (blk_cell BK274.out 2).trans rfl
     have hcz23_3 : w8.cell? ⟨gb274, 3, none⟩ = some (.int .i64 a1_3) := (blk_cell BK274.out 3).trans rfl
     have hcz23_4 : w8.cell? ⟨gb274, 4, none⟩ = some (.int .i64 a1_4) := (blk_cell BK274.out 4).trans rfl
     have hfz23_0 := blk_frozen BK274.out 0
     have hfz23_1 := blk_frozen BK274.out 1
     have hfz23_2 := blk_frozen BK274.out 2
     have hfz23_3 := blk_frozen BK274.out 3
     have hfz23_4 := blk_frozen BK274.out 4
     go_wp2_with (first | (go_at_call 9; (with_reducible refine (task_Check.calls k _ _ l0_0 a0_1 a0_2 a1_0 a1_1 a1_2 a1_3 a1_4 t276 _ ?side1 ?side2 A15.out).mono ?_); (case side1 => repeat (first | exact (Kd.C_below HR0_0.out HB.out) | (with_reducible refine Kd.C_alloc ?_ _) | (with_reducible refine Kd.C_drewN ?_ _) | (with_reducible refine Kd.C_drew ?_))); (case side2 => exact HC0_0.out); rintro e w24 ⟨rfl, hb⟩; have n0_ := Aside0.mk (blk_below (g := gb273) (o := .cells #[.slice A0_0 l0_0.length c0_0, .int .i64 a0_1, .int .i64 a0_2] 24 (0, 0)) (by (with_reducible repeat (first | refine blk_drewN ?_ _ | refine blk_drew ?_ | refine blk_alloc ?_ _)); exact BK273.out) hb); have n1_ := Aside0.mk (blk_below (g := gb274) (o := .cells #[.int .u8 a1_0, .int .i64 a1_1, .int .i64 a1_2, .int .i64 a1_3, .int .i64 a1_4] 31 (0, 0)) (by (with_reducible repeat (first | refine blk_drewN ?_ _ | refine blk_drew ?_ | refine blk_alloc ?_ _)); exact BK274.out) hb); have n2_ := Aside0.mk (below_step (by repeat (first | (with_reducible first | exact HB.out | apply below_alloc | apply pw_below_drewN | apply below_drew1 | refine below_set ?_ GE273.out | refine below_set ?_ GE274.out) | exact HB.out)) hb); clear BK273; clear BK274; clear HB; have BK273 := n0_; have BK274 := n1_; have HB := n2_; clear n0_ n1_ n2_; (try clear hb); (try clear hb2); (try clear hk); (try clear hi)))
     go_meet
     case rel => exact ⟨_, (true), (by first | rfl | (simp; done) | (simp [*]; done)), H', ⟨by first | omega | exact Nat.le_refl _⟩, ⟨by (with_reducible repeat (first | refine blk_drewN ?_ _ | refine blk_drew ?_ | refine blk_alloc ?_ _)); exact BK273.out⟩, ⟨by (with_reducible repeat (first | refine blk_drewN ?_ _ | refine blk_drew ?_ | refine blk_alloc ?_ _)); exact BK274.out⟩, ⟨by repeat (first | (with_reducible first | exact HB.out | apply below_alloc | apply pw_below_drewN | apply below_drew1 | refine below_set ?_ GE273.out | refine below_set ?_ GE274.out) | exact HB.out)⟩⟩
 case rest =>
  clear HC5
  try clear c1
  try clear c2
  try clear p2
  try clear c4
  try clear c7
  try clear c9
  try clear c9b0
  try clear c9b1
  try clear c10
  try clear c12
  try clear c12b0
  try clear c12b1
  try clear c13
  try clear c16
  try clear c16b0
  try clear c16b1
  try clear c17
  try clear c21
  try clear hcz11_0
  try clear hcz11_1
  try clear hcz11_2
  try clear hcz14_0
  try clear hcz14_1
  try clear hcz14_2
  try clear hcz18_0
  try clear hcz18_1
  try clear hcz18_2
  try clear hcz19_0
  try clear hcz19_1
  try clear hcz19_2
  try clear hcz19_3
  try clear hcz19_4
  try clear hcz22_0
  try clear hcz22_1
  try clear hcz22_2
  try clear hcz23_0
  try clear hcz23_1
  try clear hcz23_2
  try clear hcz23_3
  try clear hcz23_4
  try clear hfz11_0
  try clear hfz11_1
  try clear hfz11_2
  try clear hfz14_0
  try clear hfz14_1
  try clear hfz14_2
  try clear hfz18_0
  try clear hfz18_1
  try clear hfz18_2
  try clear hfz19_0
  try clear hfz19_1
  try clear hfz19_2
  try clear hfz19_3
  try clear hfz19_4
  try clear hfz22_0
  try clear hfz22_1
  try clear hfz22_2
  try clear hfz23_0
  try clear hfz23_1
  try clear hfz23_2
  try clear hfz23_3
  try clear hfz23_4
  obtain ⟨kq, x33_4, rfl, HA, HJ4, BK273, BK274, HB⟩ := hcut
  cases kq with
  | zero => exact absurd HA.out (by simp [millhandlaw24_TaskRuns.j0])
  | succ kj4 =>
   have H := HA.out
   clear HA
   simp only [millhandlaw24_TaskRuns.j0] at H
   by_cases c25 : x33_4 = true
   ·
    subst c25
    have H1 : (some t275) = some r := by rw [if_pos rfl] at H; exact H
    clear H
    have H := H1
    clear H1
    obtain rfl := Option.some.inj H
    go_wp2
    go_ret
    exact ⟨by first | rfl | (simp [errW_none, errW_some] <;> rfl) | (simp [*, errW_none, errW_some] <;> rfl) | exact ret_ie _ | (simp [*, errW_none, errW_some, bne]; done), by repeat (first | (with_reducible first | exact HB.out | apply below_alloc | apply pw_below_drewN | apply below_drew1 | refine below_set ?_ GE273.out | refine below_set ?_ GE274.out) | exact HB.out)⟩
   ·
    replace c25 := Bool.eq_false_iff.mpr c25
    subst c25
    have H1 : (millhandlaw24_TaskRuns.l0 kj4 l2 0 a1_1 0 l0_0 a0_1 a0_2 a1_0 a1_1 a1_2 a1_3 a1_4) = some r := by rw [if_neg (show ¬ (false = true) by decide)] at H; exact H
    clear H
    have H := H1
    clear H1
    have H' := Aside0.mk H
    clear H
    have hnb26 := NB274_273.out
    have hnc26 := NB273_274.out
    have hcz27_0 : wc.cell? ⟨gb274, 0, none⟩ = some (.int .u8 a1_0) := (blk_cell BK274.out 0).trans rfl
    have hcz27_1 : wc.cell? ⟨gb274, 1, none⟩ = some (.int .i64 a1_1) := (blk_cell BK274.out 1).trans rfl
    have hcz27_2 : wc.cell? ⟨gb274, 2, none⟩ = some (.int .i64 a1_2) := (blk_cell BK274.out 2).trans rfl
    have hcz27_3 : wc.cell? ⟨gb274, 3, none⟩ = some (.int .i64 a1_3) := (blk_cell BK274.out 3).trans rfl
    have hcz27_4 : wc.cell? ⟨gb274, 4, none⟩ = some (.int .i64 a1_4) := (blk_cell BK274.out 4).trans rfl
    have hfz27_0 := blk_frozen BK274.out 0
    have hfz27_1 := blk_frozen BK274.out 1
    have hfz27_2 := blk_frozen BK274.out 2
    have hfz27_3 := blk_frozen BK274.out 3
    have hfz27_4 := blk_frozen BK274.out 4
    go_wp2
    go_loopg [8, 10] kj4 (fun kq v8 v10 w' => ∃ (x8_2 : Int) (x10_2 : Int) (x275000_2 : Int) (x275001_2 : Int) (x275002_2 : Int) (x275003_2 : Int) (x275004_2 : Int), v8 = .int .i64 x8_2 ∧ v10 = .int .i64 x10_2 ∧ Aside0 (millhandlaw24_TaskRuns.l0 kq l2 x8_2 a1_1 x10_2 l0_0 a0_1 a0_2 x275000_2 x275001_2 x275002_2 x275003_2 x275004_2 = some r) ∧ Aside0 (kq ≤ kj4) ∧ Aside0 (w'.heap[gb273]? = some (.cells #[(.slice A0_0 l0_0.length c0_0), .int .i64 a0_1, .int .i64 a0_2] 24 (0, 0))) ∧ Aside0 (w'.heap[gb274]? = some (.cells #[.int .u8 x275000_2, .int .i64 x275001_2, .int .i64 x275002_2, .int .i64 x275003_2, .int .i64 x275004_2] 31 (0, 0))) ∧ Aside0 (Below w.heap.size w w'))
    case atStart => exact ⟨(0), (0), (a1_0), (a1_1), (a1_2), (a1_3), (a1_4), (by first | rfl | (simp; done) | (simp [*]; done)), (by first | rfl | (simp; done) | (simp [*]; done)), H', ⟨Nat.le_refl _⟩, ⟨by (with_reducible repeat (first | refine blk_drewN ?_ _ | refine blk_drew ?_ | refine blk_alloc ?_ _)); exact BK273.out⟩, ⟨by (with_reducible repeat (first | refine blk_drewN ?_ _ | refine blk_drew ?_ | refine blk_alloc ?_ _)); exact BK274.out⟩, ⟨by repeat (first | (with_reducible first | exact HB.out | apply below_alloc | apply pw_below_drewN | apply below_drew1 | refine below_set ?_ GE273.out | refine below_set ?_ GE274.out) | exact HB.out)⟩⟩
    case round =>
     clear H'
     try clear c1
     try clear c2
     try clear p2
     try clear c4
     try clear c7
     try clear c9
     try clear c9b0
     try clear c9b1
     try clear c10
     try clear c12
     try clear c12b0
     try clear c12b1
     try clear c13
     try clear c16
     try clear c16b0
     try clear c16b1
     try clear c17
     try clear c21
     try clear c25
     try clear c26
     try clear hcz11_0
     try clear hcz11_1
     try clear hcz11_2
     try clear hcz14_0
     try clear hcz14_1
     try clear hcz14_2
     try clear hcz18_0
     try clear hcz18_1
     try clear hcz18_2
     try clear hcz19_0
     try clear hcz19_1
     try clear hcz19_2
     try clear hcz19_3
     try clear hcz19_4
     try clear hcz22_0
     try clear hcz22_1
     try clear hcz22_2
     try clear hcz23_0
     try clear hcz23_1
     try clear hcz23_2
     try clear hcz23_3
     try clear hcz23_4
     try clear hcz27_0
     try clear hcz27_1
     try clear hcz27_2
     try clear hcz27_3
     try clear hcz27_4
     try clear hfz11_0
     try clear hfz11_1
     try clear hfz11_2
     try clear hfz14_0
     try clear hfz14_1
     try clear hfz14_2
     try clear hfz18_0
     try clear hfz18_1
     try clear hfz18_2
     try clear hfz19_0
     try clear hfz19_1
     try clear hfz19_2
     try clear hfz19_3
     try clear hfz19_4
     try clear hfz22_0
     try clear hfz22_1
     try clear hfz22_2
     try clear hfz23_0
     try clear hfz23_1
     try clear hfz23_2
     try clear hfz23_3
     try clear hfz23_4
     try clear hfz27_0
     try clear hfz27_1
     try clear hfz27_2
     try clear hfz27_3
     try clear hfz27_4
     try clear p2
     obtain ⟨x8_2, x10_2, x275000_2, x275001_2, x275002_2, x275003_2, x275004_2, rfl, rfl, HA, HK2, BK273, BK274, HB⟩ := hrel
     cases gk with
     | zero => exact absurd HA.out (by simp [millhandlaw24_TaskRuns.l0])
     | succ k2 =>
      have H := HA.out
      clear HA
      simp only [millhandlaw24_TaskRuns.l0] at H
      by_cases c28 : x10_2 < (l2.length : Int)
      ·
       rw [if_pos c28] at H
       have c28b0 : decide (x10_2 < (l2.length : Int)) = true := decide_eq_true c28
       clear c28
       by_cases c29 : 0 ≤ x10_2
       ·
        rw [if_pos c29] at H
        have c29b0 : decide (0 ≤ x10_2) = true := decide_eq_true c29
        clear c29
        replace H := Option.bind_eq_some_iff.mp H
        obtain ⟨⟨t280, t281, t282, t283, t284, t285⟩, A300, H⟩ := H
        replace H : (if t285 = true then ((task_Check.f k2 l0_0 a0_1 a0_2 t280 t281 t282 t283 t284).bind fun t288 => (if t288 = 0 then (if x275000_2 ≥ 4 then (millhandlaw24_TaskRuns.j2 k2 l2 x8_2 a1_1 x10_2 (Int.tmod ((rd_T37 l2 x10_2).f0) 8) true l0_0 a0_1 a0_2 x275000_2 x275001_2 x275002_2 x275003_2 x275004_2 t280 t281 t282 t283 t284) else (if (Int.tmod ((rd_T37 l2 x10_2).f0) 8) ≥ 2 then (if (Int.tmod ((rd_T37 l2 x10_2).f0) 8) ≤ 4 then (millhandlaw24_TaskRuns.j2 k2 l2 x8_2 a1_1 x10_2 (Int.tmod ((rd_T37 l2 x10_2).f0) 8) (x275003_2 != ((rd_T37 l2 x10_2).f1)) l0_0 a0_1 a0_2 x275000_2 x275001_2 x275002_2 x275003_2 x275004_2 t280 t281 t282 t283 t284) else (millhandlaw24_TaskRuns.j2 k2 l2 x8_2 a1_1 x10_2 (Int.tmod ((rd_T37 l2 x10_2).f0) 8) false l0_0 a0_1 a0_2 x275000_2 x275001_2 x275002_2 x275003_2 x275004_2 t280 t281 t282 t283 t284)) else (millhandlaw24_TaskRuns.j2 k2 l2 x8_2 a1_1 x10_2 (Int.tmod ((rd_T37 l2 x10_2).f0) 8) false l0_0 a0_1 a0_2 x275000_2 x275001_2 x275002_2 x275003_2 x275004_2 t280 t281 t282 t283 t284))) else (millhandlaw24_TaskRuns.j2 k2 l2 x8_2 a1_1 x10_2 (Int.tmod ((rd_T37 l2 x10_2).f0) 8) true l0_0 a0_1 a0_2 x275000_2 x275001_2 x275002_2 x275003_2 x275004_2 t280 t281 t282 t283 t284))) else (millhandlaw24_TaskRuns.l0 k2 l2 x8_2 a1_1 (wrap64 (x10_2 + 1)) l0_0 a0_1 a0_2 x275000_2 x275001_2 x275002_2 x275003_2 x275004_2)) = some r := H
        have A30 := Aside0.mk A300
        clear A300
        by_cases c31 : t285 = true
        ·
         subst c31
         have H1 : ((task_Check.f k2 l0_0 a0_1 a0_2 t280 t281 t282 t283 t284).bind fun t288 => (if t288 = 0 then (if x275000_2 ≥ 4 then (millhandlaw24_TaskRuns.j2 k2 l2 x8_2 a1_1 x10_2 (Int.tmod ((rd_T37 l2 x10_2).f0) 8) true l0_0 a0_1 a0_2 x275000_2 x275001_2 x275002_2 x275003_2 x275004_2 t280 t281 t282 t283 t284) else (if (Int.tmod ((rd_T37 l2 x10_2).f0) 8) ≥ 2 then (if (Int.tmod ((rd_T37 l2 x10_2).f0) 8) ≤ 4 then (millhandlaw24_TaskRuns.j2 k2 l2 x8_2 a1_1 x10_2 (Int.tmod ((rd_T37 l2 x10_2).f0) 8) (x275003_2 != ((rd_T37 l2 x10_2).f1)) l0_0 a0_1 a0_2 x275000_2 x275001_2 x275002_2 x275003_2 x275004_2 t280 t281 t282 t283 t284) else (millhandlaw24_TaskRuns.j2 k2 l2 x8_2 a1_1 x10_2 (Int.tmod ((rd_T37 l2 x10_2).f0) 8) false l0_0 a0_1 a0_2 x275000_2 x275001_2 x275002_2 x275003_2 x275004_2 t280 t281 t282 t283 t284)) else (millhandlaw24_TaskRuns.j2 k2 l2 x8_2 a1_1 x10_2 (Int.tmod ((rd_T37 l2 x10_2).f0) 8) false l0_0 a0_1 a0_2 x275000_2 x275001_2 x275002_2 x275003_2 x275004_2 t280 t281 t282 t283 t284))) else (millhandlaw24_TaskRuns.j2 k2 l2 x8_2 a1_1 x10_2 (Int.tmod ((rd_T37 l2 x10_2).f0) 8) true l0_0 a0_1 a0_2 x275000_2 x275001_2 x275002_2 x275003_2 x275004_2 t280 t281 t282 t283 t284))) = some r := by rw [if_pos rfl] at H; exact H
         clear H
         have H := H1
         clear H1
         have HC32 := Aside0.mk H
         clear H
         try go_wp2
         obtain ⟨BK273, BK274, HB⟩ := And.intro (Aside0.mk (blk_drew BK273.out)) (And.intro (Aside0.mk (blk_drew BK274.out)) (Aside0.mk (below_drew1 HB.out)))
         have p277 : 0 ≤ (x10_2 : Int) := of_decide_eq_true (by first | (with_reducible assumption) | assumption)
         have q277 : x10_2 < (l2.length : Int) := of_decide_eq_true (by first | (with_reducible assumption) | assumption)
         obtain ⟨ad277, e277, hx277_0, hx277_1, hx277_2⟩ := at_T37 HR2.out x10_2 p277 q277
         have hw277_2 := hx277_2
         have hw277_1 := hx277_1
         have hw277_0 := hx277_0
         cases e277
         replace hx277_0 := cl_ HB.out hx277_0
         replace hx277_1 := cl_ HB.out hx277_1
         replace hx277_2 := cl_ HB.out hx277_2
         replace p277 := eq_true p277
         replace q277 := eq_true q277
         have p278 : 0 ≤ (x10_2 : Int) := of_decide_eq_true (by first | (with_reducible assumption) | assumption)
         have q278 : x10_2 < (l2.length : Int) := of_decide_eq_true (by first | (with_reducible assumption) | assumption)
         obtain ⟨ad278, e278, hx278_0, hx278_1, hx278_2⟩ := at_T37 HR2.out x10_2 p278 q278
         have hw278_2 := hx278_2
         have hw278_1 := hx278_1
         have hw278_0 := hx278_0
         obtain rfl : ad277 = ad278 := (by injection e278)
         replace hx278_0 := cl_ HB.out hx278_0
         replace hx278_1 := cl_ HB.out hx278_1
         replace hx278_2 := cl_ HB.out hx278_2
         replace p278 := eq_true p278
         replace q278 := eq_true q278
         have p279 : 0 ≤ (x10_2 : Int) := of_decide_eq_true (by first | (with_reducible assumption) | assumption)
         have q279 : x10_2 < (l2.length : Int) := of_decide_eq_true (by first | (with_reducible assumption) | assumption)
         obtain ⟨ad279, e279, hx279_0, hx279_1, hx279_2⟩ := at_T37 HR2.out x10_2 p279 q279
         have hw279_2 := hx279_2
         have hw279_1 := hx279_1
         have hw279_0 := hx279_0
         obtain rfl : ad277 = ad279 := (by injection e279)
         replace hx279_0 := cl_ HB.out hx279_0
         replace hx279_1 := cl_ HB.out hx279_1
         replace hx279_2 := cl_ HB.out hx279_2
         replace p279 := eq_true p279
         replace q279 := eq_true q279
         refine start_ (n := 24) (S := fun w' => w'.cell? ⟨gb273, 0, none⟩ = some (.slice A0_0 l0_0.length c0_0) ∧ w'.cell? ⟨gb273, 1, none⟩ = some (.int .i64 a0_1) ∧ w'.cell? ⟨gb273, 2, none⟩ = some (.int .i64 a0_2) ∧ w'.cell? ⟨gb274, 0, none⟩ = some (.int .u8 x275000_2) ∧ w'.cell? ⟨gb274, 1, none⟩ = some (.int .i64 x275001_2) ∧ w'.cell? ⟨gb274, 2, none⟩ = some (.int .i64 x275002_2) ∧ w'.cell? ⟨gb274, 3, none⟩ = some (.int .i64 x275003_2) ∧ w'.cell? ⟨gb274, 4, none⟩ = some (.int .i64 x275004_2) ∧ w'.cell? (ad277.add ((x10_2).toNat * 3)) = some (.int .u8 ((rd_T37 l2 x10_2).f0)) ∧ w'.cell? ⟨(ad277.add ((x10_2).toNat * 3)).block, (ad277.add ((x10_2).toNat * 3)).off + 1, none⟩ = some (.int .i64 ((rd_T37 l2 x10_2).f1)) ∧ w'.cell? ⟨(ad277.add ((x10_2).toNat * 3)).block, (ad277.add ((x10_2).toNat * 3)).off + 2, none⟩ = some (.int .i64 ((rd_T37 l2 x10_2).f2)) ∧ w'.cell? (ad277.add ((x10_2).toNat * 3)) = some (.int .u8 ((rd_T37 l2 x10_2).f0)) ∧ w'.cell? ⟨(ad277.add ((x10_2).toNat * 3)).block, (ad277.add ((x10_2).toNat * 3)).off + 1, none⟩ = some (.int .i64 ((rd_T37 l2 x10_2).f1)) ∧ w'.cell? ⟨(ad277.add ((x10_2).toNat * 3)).block, (ad277.add ((x10_2).toNat * 3)).off + 2, none⟩ = some (.int .i64 ((rd_T37 l2 x10_2).f2)) ∧ w'.cell? (ad277.add ((x10_2).toNat * 3)) = some (.int .u8 ((rd_T37 l2 x10_2).f0)) ∧ w'.cell? ⟨(ad277.add ((x10_2).toNat * 3)).block, (ad277.add ((x10_2).toNat * 3)).off + 1, none⟩ = some (.int .i64 ((rd_T37 l2 x10_2).f1)) ∧ w'.cell? ⟨(ad277.add ((x10_2).toNat * 3)).block, (ad277.add ((x10_2).toNat * 3)).off + 2, none⟩ = some (.int .i64 ((rd_T37 l2 x10_2).f2))) (ds := []) (b_ 24 0) (by kernel_rfl) rfl rfl ⟨(blk_cell BK273.out 0).trans rfl, (blk_cell BK273.out 1).trans rfl, (blk_cell BK273.out 2).trans rfl, (blk_cell BK274.out 0).trans rfl, (blk_cell BK274.out 1).trans rfl, (blk_cell BK274.out 2).trans rfl, (blk_cell BK274.out 3).trans rfl, (blk_cell BK274.out 4).trans rfl, (cl_ HB.out hw277_0), (cl_ HB.out hw277_1), (cl_ HB.out hw277_2), (cl_ HB.out hw278_0), (cl_ HB.out hw278_1), (cl_ HB.out hw278_2), (cl_ HB.out hw279_0), (cl_ HB.out hw279_1), (cl_ HB.out hw279_2)⟩ (fun hHeld => ?_); refine with_tabW millhandlaw24_TaskRuns.tab9 millhandlaw24_TaskRuns.bits9 (fun HT_ HW_ => ?_)
         generalize wr.drew = w33 at BK273 BK274 HB hx277_0 hx277_1 hx277_2 hx278_0 hx278_1 hx278_2 hx279_0 hx279_1 hx279_2 hHeld ⊢
         refine pA_ 2 46 ?_ (b_ 24 4) (any_of HT_.out (by kernel_rfl)) rfl rfl (fun _ _ _ h => h) (by rfl) ?_ ?_ ?_ ?_
         rotate_left
         ·
          intro w'
          go_simp
          with_reducible rfl
         rotate_left
         ·
          simp only [Act.put, sa_, s0_, s1_, i64_w, i32_w]
          rfl
         refine pA_ 3 47 ?_ (b_ 24 12) (any_of HT_.out (by kernel_rfl)) rfl rfl (fun _ _ _ h => h) (by rfl) ?_ ?_ ?_ ?_
         rotate_left
         ·
          intro w'
          go_simp
          with_reducible rfl
         rotate_left
         ·
          simp only [Act.put, sa_, s0_, s1_, i64_w, i32_w]
          rfl
         refine pA_ 4 48 ?_ (b_ 24 28) (any_of HT_.out (by kernel_rfl)) rfl rfl (fun _ _ _ h => h) (by rfl) ?_ ?_ ?_ ?_
         rotate_left
         ·
          intro w'
          go_simp
          with_reducible rfl
         rotate_left
         ·
          simp only [Act.put, sa_, s0_, s1_, i64_w, i32_w]
          rfl
         refine pA_ 5 49 ?_ (b_ 24 60) (any_of HT_.out (by kernel_rfl)) rfl rfl (fun _ _ _ h => h) (by rfl) ?_ ?_ ?_ ?_
         rotate_left
         ·
          intro w'
          go_simp
          with_reducible rfl
         rotate_left
         ·
          simp only [Act.put, sa_, s0_, s1_, i64_w, i32_w]
          rfl
         refine pA_ 7 51 ?_ (b_ 24 188) (any_of HT_.out (by kernel_rfl)) rfl rfl (fun _ _ _ h => h) (by rfl) ?_ ?_ ?_ ?_
         rotate_left
         ·
          intro w'
          go_simp
          with_reducible rfl
         rotate_left
         ·
          simp only [Act.put, sa_, s0_, s1_, i64_w, i32_w]
          rfl
         refine pA_ 8 52 ?_ (b_ 24 444) (any_of HT_.out (by kernel_rfl)) rfl rfl (fun _ _ _ h => h) (by rfl) ?_ ?_ ?_ ?_
         rotate_left
         ·
          intro w'
          go_simp
          with_reducible rfl
         rotate_left
         ·
          simp only [Act.put, sa_, s0_, s1_, i64_w, i32_w]
          rfl
         refine pA_ 9 53 ?_ (b_ 24 956) (any_of HT_.out (by kernel_rfl)) rfl rfl (fun _ _ _ h => h) (by rfl) ?_ ?_ ?_ ?_
         rotate_left
         ·
          intro w'
          go_simp
          with_reducible rfl
         rotate_left
         ·
          simp only [Act.put, sa_, s0_, s1_, i64_w, i32_w]
          rfl
         refine pA_ 10 54 ?_ (b_ 24 1980) (any_of HT_.out (by kernel_rfl)) rfl rfl (fun _ _ _ h => h) (by rfl) ?_ ?_ ?_ ?_
         rotate_left
         ·
          intro w'
          go_simp
          with_reducible rfl
         rotate_left
         ·
          simp only [Act.put, sa_, s0_, s1_, i64_w, i32_w]
          rfl
         refine pA_ 12 56 ?_ (b_ 24 6076) (any_of HT_.out (by kernel_rfl)) rfl rfl (fun _ _ _ h => h) (by rfl) ?_ ?_ ?_ ?_
         rotate_left
         ·
          intro w'
          go_simp
          with_reducible rfl
         rotate_left
         ·
          simp only [Act.put, sa_, s0_, s1_, i64_w, i32_w]
          rfl
         refine pA_ 13 57 ?_ (b_ 24 14268) (any_of HT_.out (by kernel_rfl)) rfl rfl (fun _ _ _ h => h) (by rfl) ?_ ?_ ?_ ?_
         rotate_left
         ·
          intro w'
          go_simp
          with_reducible rfl
         rotate_left
         ·
          simp only [Act.put, sa_, s0_, s1_, i64_w, i32_w]
          rfl
         refine pA_ 14 58 ?_ (b_ 24 30652) (any_of HT_.out (by kernel_rfl)) rfl rfl (fun _ _ _ h => h) (by rfl) ?_ ?_ ?_ ?_
         rotate_left
         ·
          intro w'
          go_simp
          with_reducible rfl
         rotate_left
         ·
          simp only [Act.put, sa_, s0_, s1_, i64_w, i32_w]
          rfl
         refine pA_ 15 59 ?_ (b_ 24 63420) (any_of HT_.out (by kernel_rfl)) rfl rfl (fun _ _ _ h => h) (by rfl) ?_ ?_ ?_ ?_
         rotate_left
         ·
          intro w'
          go_simp
          with_reducible rfl
         rotate_left
         ·
          simp only [Act.put, sa_, s0_, s1_, i64_w, i32_w]
          rfl
         refine tA_ 0 44 ?_ (b_ 24 63421) (take_ofW HT_.out HW_.out (by kernel_rfl)) rfl rfl (fun _ _ _ h => h) (by rfl) ?_ hHeld ?_ ?_ ?_
         rotate_left
         ·
          rintro w' ⟨s0, s1, s2, s3, s4, s5, s6, s7, s8, s9, s10, s11, s12, s13, s14, s15, s16⟩
          go_simp
          with_reducible rfl
         rotate_left
         ·
          simp only [Act.put, sa_, s0_, s1_, i64_w, i32_w]
          rfl
         refine tA_ 1 45 ?_ (b_ 24 63423) (take_ofW HT_.out HW_.out (by kernel_rfl)) rfl rfl (fun _ _ _ h => h) (by rfl) ?_ hHeld ?_ ?_ ?_
         rotate_left
         ·
          rintro w' ⟨s0, s1, s2, s3, s4, s5, s6, s7, s8, s9, s10, s11, s12, s13, s14, s15, s16⟩
          go_simp
          with_reducible rfl
         rotate_left
         ·
          simp only [Act.put, sa_, s0_, s1_, i64_w, i32_w]
          rfl
         refine tA_ 6 50 ?_ (b_ 24 63487) (take_ofW HT_.out HW_.out (by kernel_rfl)) rfl rfl (fun _ _ _ h => h) (by rfl) ?_ hHeld ?_ ?_ ?_
         rotate_left
         ·
          rintro w' ⟨s0, s1, s2, s3, s4, s5, s6, s7, s8, s9, s10, s11, s12, s13, s14, s15, s16⟩
          go_simp
          with_reducible rfl
         rotate_left
         ·
          simp only [Act.put, sa_, s0_, s1_, i64_w, i32_w]
          rfl
         refine tA_ 11 55 ?_ (b_ 24 65535) (take_ofW HT_.out HW_.out (by kernel_rfl)) rfl rfl (fun _ _ _ h => h) (by rfl) ?_ hHeld ?_ ?_ ?_
         rotate_left
         ·
          rintro w' ⟨s0, s1, s2, s3, s4, s5, s6, s7, s8, s9, s10, s11, s12, s13, s14, s15, s16⟩
          go_simp
          with_reducible rfl
         rotate_left
         ·
          simp only [Act.put, sa_, s0_, s1_, i64_w, i32_w]
          rfl
         refine tA_ 16 60 ?_ (b_ 24 131071) (take_ofW HT_.out HW_.out (by kernel_rfl)) rfl rfl (fun _ _ _ h => h) (by rfl) ?_ hHeld ?_ ?_ ?_
         rotate_left
         ·
          rintro w' ⟨s0, s1, s2, s3, s4, s5, s6, s7, s8, s9, s10, s11, s12, s13, s14, s15, s16⟩
          go_simp
          with_reducible rfl
         rotate_left
         ·
          simp only [Act.put, sa_, s0_, s1_, i64_w, i32_w]
          rfl
         refine join_ (σ := Nat) 2 (b_ 24 4194303) (fun s_ => [(61, .tuple #[.agg #[.int .u8 t280, .int .i64 t281, .int .i64 t282, .int .i64 t283, .int .i64 t284], .bool true]), (11, .pointer (some ⟨s_, 0, none⟩)), (43, .tuple #[.agg #[.int .u8 t280, .int .i64 t281, .int .i64 t282, .int .i64 t283, .int .i64 t284], .bool true]), (62, .agg #[.int .u8 t280, .int .i64 t281, .int .i64 t282, .int .i64 t283, .int .i64 t284]), (63, .bool true)]) (fun s_ w' => (w'.cell? ⟨gb273, 0, none⟩ = some (.slice A0_0 l0_0.length c0_0) ∧ w'.cell? ⟨gb273, 1, none⟩ = some (.int .i64 a0_1) ∧ w'.cell? ⟨gb273, 2, none⟩ = some (.int .i64 a0_2) ∧ w'.cell? ⟨gb274, 0, none⟩ = some (.int .u8 x275000_2) ∧ w'.cell? ⟨gb274, 1, none⟩ = some (.int .i64 x275001_2) ∧ w'.cell? ⟨gb274, 2, none⟩ = some (.int .i64 x275002_2) ∧ w'.cell? ⟨gb274, 3, none⟩ = some (.int .i64 x275003_2) ∧ w'.cell? ⟨gb274, 4, none⟩ = some (.int .i64 x275004_2) ∧ w'.cell? (ad277.add ((x10_2).toNat * 3)) = some (.int .u8 ((rd_T37 l2 x10_2).f0)) ∧ w'.cell? ⟨(ad277.add ((x10_2).toNat * 3)).block, (ad277.add ((x10_2).toNat * 3)).off + 1, none⟩ = some (.int .i64 ((rd_T37 l2 x10_2).f1)) ∧ w'.cell? ⟨(ad277.add ((x10_2).toNat * 3)).block, (ad277.add ((x10_2).toNat * 3)).off + 2, none⟩ = some (.int .i64 ((rd_T37 l2 x10_2).f2)) ∧ w'.cell? (ad277.add ((x10_2).toNat * 3)) = some (.int .u8 ((rd_T37 l2 x10_2).f0)) ∧ w'.cell? ⟨(ad277.add ((x10_2).toNat * 3)).block, (ad277.add ((x10_2).toNat * 3)).off + 1, none⟩ = some (.int .i64 ((rd_T37 l2 x10_2).f1)) ∧ w'.cell? ⟨(ad277.add ((x10_2).toNat * 3)).block, (ad277.add ((x10_2).toNat * 3)).off + 2, none⟩ = some (.int .i64 ((rd_T37 l2 x10_2).f2)) ∧ w'.cell? (ad277.add ((x10_2).toNat * 3)) = some (.int .u8 ((rd_T37 l2 x10_2).f0)) ∧ w'.cell? ⟨(ad277.add ((x10_2).toNat * 3)).block, (ad277.add ((x10_2).toNat * 3)).off + 1, none⟩ = some (.int .i64 ((rd_T37 l2 x10_2).f1)) ∧ w'.cell? ⟨(ad277.add ((x10_2).toNat * 3)).block, (ad277.add ((x10_2).toNat * 3)).off + 2, none⟩ = some (.int .i64 ((rd_T37 l2 x10_2).f2))) ∧ (w'.heap[gb273]? = some (.cells #[.slice A0_0 l0_0.length c0_0, .int .i64 a0_1, .int .i64 a0_2] 24 (0, 0))) ∧ (w'.heap[gb274]? = some (.cells #[.int .u8 x275000_2, .int .i64 x275001_2, .int .i64 x275002_2, .int .i64 x275003_2, .int .i64 x275004_2] 31 (0, 0))) ∧ (w'.heap[s_]? = some (.cells #[.int .u8 0, .int .i64 0, .int .i64 0, .int .i64 0, .int .i64 0] 31 (0, 0))) ∧ (w.heap.size ≤ s_) ∧ (w.heap.size ≤ s_) ∧ (gb273 ≠ s_) ∧ (s_ ≠ gb273) ∧ (gb274 ≠ s_) ∧ (s_ ≠ gb274) ∧ (Below w.heap.size w w')) ?_ ?_
         rotate_left
         ·
          intro hCont
          refine two_ (i := 17) (j := 21) (Ni := some 61) (Nj := some 11) (b_ 24 262143) (b_ 24 2228223) rfl rfl rfl rfl (two_of HT_.out (by kernel_rfl)) (by decide) (by decide) (fun K hK => ?_) (fun K hK => ?_)
          ·
           skip
           refine goes_ Try.func10 (by kernel_rfl) rfl #[.agg #[.slice A0_0 l0_0.length c0_0, .int .i64 a0_1, .int .i64 a0_2], .agg #[.int .u8 x275000_2, .int .i64 x275001_2, .int .i64 x275002_2, .int .i64 x275003_2, .int .i64 x275004_2], .int .u8 ((rd_T37 l2 x10_2).f0), .int .i64 ((rd_T37 l2 x10_2).f1), .int .i64 ((rd_T37 l2 x10_2).f2)] (by rfl) rfl rfl (by (try simp only [List.map_toArray, List.map_cons, List.map_nil]); first | done | rfl | (simp only [List.length_drop, List.length_take]; rfl)) ?_
           with_reducible refine (millhandlaw24_step.calls k2 _ _ l0_0 a0_1 a0_2 x275000_2 x275001_2 x275002_2 x275003_2 x275004_2 ((rd_T37 l2 x10_2).f0) ((rd_T37 l2 x10_2).f1) ((rd_T37 l2 x10_2).f2) t280 t281 t282 t283 t284 true _ ?side1 ?side2 A30.out).mono ?_
           (case side1 => repeat (first | exact (Kd.C_below HR0_0.out HB.out) | (with_reducible refine Kd.C_alloc ?_ _) | (with_reducible refine Kd.C_drewN ?_ _) | (with_reducible refine Kd.C_drew ?_)))
           (case side2 => exact HC0_0.out)
           rintro e w34 ⟨rfl, hb⟩
           refine ⟨_, rfl, ?_⟩
           obtain ⟨BK273, BK274, HB⟩ := And.intro (Aside0.mk (blk_below (g := gb273) (o := .cells #[.slice A0_0 l0_0.length c0_0, .int .i64 a0_1, .int .i64 a0_2] 24 (0, 0)) (by (with_reducible repeat (first | refine blk_drewN ?_ _ | refine blk_drew ?_ | refine blk_alloc ?_ _)); exact BK273.out) hb)) (And.intro (Aside0.mk (blk_below (g := gb274) (o := .cells #[.int .u8 x275000_2, .int .i64 x275001_2, .int .i64 x275002_2, .int .i64 x275003_2, .int .i64 x275004_2] 31 (0, 0)) (by (with_reducible repeat (first | refine blk_drewN ?_ _ | refine blk_drew ?_ | refine blk_alloc ?_ _)); exact BK274.out) hb)) (Aside0.mk (below_step (by repeat (first | (with_reducible first | exact HB.out | apply below_alloc | apply pw_below_drewN | apply below_drew1 | refine below_set ?_ GE273.out | refine below_set ?_ GE274.out) | exact HB.out)) hb)))
           (try clear hb)
           (try clear hb2)
           (try clear hk)
           (try clear hi)
           refine hK.out _ _ ⟨(blk_cell BK273.out 0).trans rfl, (blk_cell BK273.out 1).trans rfl, (blk_cell BK273.out 2).trans rfl, (blk_cell BK274.out 0).trans rfl, (blk_cell BK274.out 1).trans rfl, (blk_cell BK274.out 2).trans rfl, (blk_cell BK274.out 3).trans rfl, (blk_cell BK274.out 4).trans rfl, (cl_ HB.out hw277_0), (cl_ HB.out hw277_1), (cl_ HB.out hw277_2), (cl_ HB.out hw278_0), (cl_ HB.out hw278_1), (cl_ HB.out hw278_2), (cl_ HB.out hw279_0), (cl_ HB.out hw279_1), (cl_ HB.out hw279_2)⟩ (fun hHeld => ?_)
           clear hK K
           refine norm_ (a' := ?_) ?_ ?_
           rotate_left
           ·
            show Act.put _ (some 61) _ = _
            simp only [Act.put, sa_, s0_, s1_, i64_w, i32_w]
            rfl
           refine pA_ 18 43 ?_ (b_ 24 524287) (any_of HT_.out (by kernel_rfl)) rfl rfl (fun _ _ _ h => h) (by rfl) ?_ ?_ ?_ ?_
           rotate_left
           ·
            intro w'
            go_simp
            with_reducible rfl
           rotate_left
           ·
            simp only [Act.put, sa_, s0_, s1_, i64_w, i32_w]
            rfl
           refine pA_ 19 62 ?_ (b_ 24 1048575) (any_of HT_.out (by kernel_rfl)) rfl rfl (fun _ _ _ h => h) (by rfl) ?_ ?_ ?_ ?_
           rotate_left
           ·
            intro w'
            go_simp
            with_reducible rfl
           rotate_left
           ·
            simp only [Act.put, sa_, s0_, s1_, i64_w, i32_w]
            rfl
           refine pA_ 20 63 ?_ (b_ 24 2097151) (any_of HT_.out (by kernel_rfl)) rfl rfl (fun _ _ _ h => h) (by rfl) ?_ ?_ ?_ ?_
           rotate_left
           ·
            intro w'
            go_simp
            with_reducible rfl
           rotate_left
           ·
            simp only [Act.put, sa_, s0_, s1_, i64_w, i32_w]
            rfl
           refine one_ (i := 21) (N := some 11) (b_ 24 4194303) rfl rfl (one_of HT_.out (by kernel_rfl)) (by decide) (fun K hK => ?_)
           refine box_step ?hg (N := 11) ?hd (cs := #[.int .u8 0, .int .i64 0, .int .i64 0, .int .i64 0, .int .i64 0]) (t := 31) ?hr ?_; (case hd => rfl); (case hg => rfl); (case hr => first | (go_simp; done) | (go_simp; rfl))
           intro gb286 hg w35 hbox hb
           obtain ⟨BK273, BK274, HB, BK286, GW286, GE286, NB273_286, NB286_273, NB274_286, NB286_274⟩ := And.intro (Aside0.mk (blk_below (g := gb273) (o := .cells #[.slice A0_0 l0_0.length c0_0, .int .i64 a0_1, .int .i64 a0_2] 24 (0, 0)) (by (with_reducible repeat (first | refine blk_drewN ?_ _ | refine blk_drew ?_ | refine blk_alloc ?_ _)); exact BK273.out) hb)) (And.intro (Aside0.mk (blk_below (g := gb274) (o := .cells #[.int .u8 x275000_2, .int .i64 x275001_2, .int .i64 x275002_2, .int .i64 x275003_2, .int .i64 x275004_2] 31 (0, 0)) (by (with_reducible repeat (first | refine blk_drewN ?_ _ | refine blk_drew ?_ | refine blk_alloc ?_ _)); exact BK274.out) hb)) (And.intro (Aside0.mk (below_step (by repeat (first | (with_reducible first | exact HB.out | apply below_alloc | apply pw_below_drewN | apply below_drew1 | refine below_set ?_ GE273.out | refine below_set ?_ GE274.out) | exact HB.out)) hb)) (And.intro (Aside0.mk (hbox)) (And.intro (Aside0.mk ((by rw [hg]; exact (below_size (by repeat (first | (with_reducible first | exact HB.out | apply below_alloc | apply pw_below_drewN | apply below_drew1 | refine below_set ?_ GE273.out | refine below_set ?_ GE274.out) | exact HB.out))) : w.heap.size ≤ gb286))) (And.intro (Aside0.mk ((by rw [hg]; exact (below_size (by repeat (first | (with_reducible first | exact HB.out | apply below_alloc | apply pw_below_drewN | apply below_drew1 | refine below_set ?_ GE273.out | refine below_set ?_ GE274.out) | exact HB.out))) : w.heap.size ≤ gb286))) (And.intro (Aside0.mk ((by rw [hg]; exact Nat.ne_of_lt (blk_lt (g := gb273) (o := .cells #[.slice A0_0 l0_0.length c0_0, .int .i64 a0_1, .int .i64 a0_2] 24 (0, 0)) (by (with_reducible repeat (first | refine blk_drewN ?_ _ | refine blk_drew ?_ | refine blk_alloc ?_ _)); exact BK273.out)) : gb273 ≠ gb286))) (And.intro (Aside0.mk ((by rw [hg]; exact Nat.ne_of_gt (blk_lt (g := gb273) (o := .cells #[.slice A0_0 l0_0.length c0_0, .int .i64 a0_1, .int .i64 a0_2] 24 (0, 0)) (by (with_reducible repeat (first | refine blk_drewN ?_ _ | refine blk_drew ?_ | refine blk_alloc ?_ _)); exact BK273.out)) : gb286 ≠ gb273))) (And.intro (Aside0.mk ((by rw [hg]; exact Nat.ne_of_lt (blk_lt (g := gb274) (o := .cells #[.int .u8 x275000_2, .int .i64 x275001_2, .int .i64 x275002_2, .int .i64 x275003_2, .int .i64 x275004_2] 31 (0, 0)) (by (with_reducible repeat (first | refine blk_drewN ?_ _ | refine blk_drew ?_ | refine blk_alloc ?_ _)); exact BK274.out)) : gb274 ≠ gb286))) (Aside0.mk ((by rw [hg]; exact Nat.ne_of_gt (blk_lt (g := gb274) (o := .cells #[.int .u8 x275000_2, .int .i64 x275001_2, .int .i64 x275002_2, .int .i64 x275003_2, .int .i64 x275004_2] 31 (0, 0)) (by (with_reducible repeat (first | refine blk_drewN ?_ _ | refine blk_drew ?_ | refine blk_alloc ?_ _)); exact BK274.out)) : gb286 ≠ gb274)))))))))))
           clear hb hbox hg
           refine hK.out _ _ ⟨(blk_cell BK273.out 0).trans rfl, (blk_cell BK273.out 1).trans rfl, (blk_cell BK273.out 2).trans rfl, (blk_cell BK274.out 0).trans rfl, (blk_cell BK274.out 1).trans rfl, (blk_cell BK274.out 2).trans rfl, (blk_cell BK274.out 3).trans rfl, (blk_cell BK274.out 4).trans rfl, (cl_ HB.out hw277_0), (cl_ HB.out hw277_1), (cl_ HB.out hw277_2), (cl_ HB.out hw278_0), (cl_ HB.out hw278_1), (cl_ HB.out hw278_2), (cl_ HB.out hw279_0), (cl_ HB.out hw279_1), (cl_ HB.out hw279_2)⟩ (fun hHeld => ?_)
           clear hK K
           refine norm_ (a' := ?_) ?_ ?_
           rotate_left
           ·
            show Act.put _ (some 11) _ = _
            simp only [Act.put, sa_, s0_, s1_, i64_w, i32_w]
            rfl
           exact norm_ (by simp only [putAll, Act.put, sa_, s0_, s1_]) (hCont (gb286) _ ⟨hHeld, (by (with_reducible repeat (first | refine blk_drewN ?_ _ | refine blk_drew ?_ | refine blk_alloc ?_ _)); exact BK273.out), (by (with_reducible repeat (first | refine blk_drewN ?_ _ | refine blk_drew ?_ | refine blk_alloc ?_ _)); exact BK274.out), (by (with_reducible repeat (first | refine blk_drewN ?_ _ | refine blk_drew ?_ | refine blk_alloc ?_ _)); exact BK286.out), GW286.out, GE286.out, NB273_286.out, NB286_273.out, NB274_286.out, NB286_274.out, (by repeat (first | (with_reducible first | exact HB.out | apply below_alloc | apply pw_below_drewN | apply below_drew1 | refine below_set ?_ GE273.out | refine below_set ?_ GE274.out | refine below_set ?_ GE286.out) | exact HB.out))⟩)
          ·
           skip
           refine box_step ?hg (N := 11) ?hd (cs := #[.int .u8 0, .int .i64 0, .int .i64 0, .int .i64 0, .int .i64 0]) (t := 31) ?hr ?_; (case hd => rfl); (case hg => rfl); (case hr => first | (go_simp; done) | (go_simp; rfl))
           intro gb286 hg w34 hbox hb
           obtain ⟨BK273, BK274, HB, BK286, GW286, GE286, NB273_286, NB286_273, NB274_286, NB286_274⟩ := And.intro (Aside0.mk (blk_below (g := gb273) (o := .cells #[.slice A0_0 l0_0.length c0_0, .int .i64 a0_1, .int .i64 a0_2] 24 (0, 0)) (by (with_reducible repeat (first | refine blk_drewN ?_ _ | refine blk_drew ?_ | refine blk_alloc ?_ _)); exact BK273.out) hb)) (And.intro (Aside0.mk (blk_below (g := gb274) (o := .cells #[.int .u8 x275000_2, .int .i64 x275001_2, .int .i64 x275002_2, .int .i64 x275003_2, .int .i64 x275004_2] 31 (0, 0)) (by (with_reducible repeat (first | refine blk_drewN ?_ _ | refine blk_drew ?_ | refine blk_alloc ?_ _)); exact BK274.out) hb)) (And.intro (Aside0.mk (below_step (by repeat (first | (with_reducible first | exact HB.out | apply below_alloc | apply pw_below_drewN | apply below_drew1 | refine below_set ?_ GE273.out | refine below_set ?_ GE274.out) | exact HB.out)) hb)) (And.intro (Aside0.mk (hbox)) (And.intro (Aside0.mk ((by rw [hg]; exact (below_size (by repeat (first | (with_reducible first | exact HB.out | apply below_alloc | apply pw_below_drewN | apply below_drew1 | refine below_set ?_ GE273.out | refine below_set ?_ GE274.out) | exact HB.out))) : w.heap.size ≤ gb286))) (And.intro (Aside0.mk ((by rw [hg]; exact (below_size (by repeat (first | (with_reducible first | exact HB.out | apply below_alloc | apply pw_below_drewN | apply below_drew1 | refine below_set ?_ GE273.out | refine below_set ?_ GE274.out) | exact HB.out))) : w.heap.size ≤ gb286))) (And.intro (Aside0.mk ((by rw [hg]; exact Nat.ne_of_lt (blk_lt (g := gb273) (o := .cells #[.slice A0_0 l0_0.length c0_0, .int .i64 a0_1, .int .i64 a0_2] 24 (0, 0)) (by (with_reducible repeat (first | refine blk_drewN ?_ _ | refine blk_drew ?_ | refine blk_alloc ?_ _)); exact BK273.out)) : gb273 ≠ gb286))) (And.intro (Aside0.mk ((by rw [hg]; exact Nat.ne_of_gt (blk_lt (g := gb273) (o := .cells #[.slice A0_0 l0_0.length c0_0, .int .i64 a0_1, .int .i64 a0_2] 24 (0, 0)) (by (with_reducible repeat (first | refine blk_drewN ?_ _ | refine blk_drew ?_ | refine blk_alloc ?_ _)); exact BK273.out)) : gb286 ≠ gb273))) (And.intro (Aside0.mk ((by rw [hg]; exact Nat.ne_of_lt (blk_lt (g := gb274) (o := .cells #[.int .u8 x275000_2, .int .i64 x275001_2, .int .i64 x275002_2, .int .i64 x275003_2, .int .i64 x275004_2] 31 (0, 0)) (by (with_reducible repeat (first | refine blk_drewN ?_ _ | refine blk_drew ?_ | refine blk_alloc ?_ _)); exact BK274.out)) : gb274 ≠ gb286))) (Aside0.mk ((by rw [hg]; exact Nat.ne_of_gt (blk_lt (g := gb274) (o := .cells #[.int .u8 x275000_2, .int .i64 x275001_2, .int .i64 x275002_2, .int .i64 x275003_2, .int .i64 x275004_2] 31 (0, 0)) (by (with_reducible repeat (first | refine blk_drewN ?_ _ | refine blk_drew ?_ | refine blk_alloc ?_ _)); exact BK274.out)) : gb286 ≠ gb274)))))))))))
           clear hb hbox hg
           refine hK.out _ _ ⟨(blk_cell BK273.out 0).trans rfl, (blk_cell BK273.out 1).trans rfl, (blk_cell BK273.out 2).trans rfl, (blk_cell BK274.out 0).trans rfl, (blk_cell BK274.out 1).trans rfl, (blk_cell BK274.out 2).trans rfl, (blk_cell BK274.out 3).trans rfl, (blk_cell BK274.out 4).trans rfl, (cl_ HB.out hw277_0), (cl_ HB.out hw277_1), (cl_ HB.out hw277_2), (cl_ HB.out hw278_0), (cl_ HB.out hw278_1), (cl_ HB.out hw278_2), (cl_ HB.out hw279_0), (cl_ HB.out hw279_1), (cl_ HB.out hw279_2)⟩ (fun hHeld => ?_)
           clear hK K
           refine norm_ (a' := ?_) ?_ ?_
           rotate_left
           ·
            show Act.put _ (some 11) _ = _
            simp only [Act.put, sa_, s0_, s1_, i64_w, i32_w]
            rfl
           refine one_ (i := 17) (N := some 61) (b_ 24 2359295) rfl rfl (one_of HT_.out (by kernel_rfl)) (by decide) (fun K hK => ?_)
           refine goes_ Try.func10 (by kernel_rfl) rfl #[.agg #[.slice A0_0 l0_0.length c0_0, .int .i64 a0_1, .int .i64 a0_2], .agg #[.int .u8 x275000_2, .int .i64 x275001_2, .int .i64 x275002_2, .int .i64 x275003_2, .int .i64 x275004_2], .int .u8 ((rd_T37 l2 x10_2).f0), .int .i64 ((rd_T37 l2 x10_2).f1), .int .i64 ((rd_T37 l2 x10_2).f2)] (by rfl) rfl rfl (by (try simp only [List.map_toArray, List.map_cons, List.map_nil]); first | done | rfl | (simp only [List.length_drop, List.length_take]; rfl)) ?_
           with_reducible refine (millhandlaw24_step.calls k2 _ _ l0_0 a0_1 a0_2 x275000_2 x275001_2 x275002_2 x275003_2 x275004_2 ((rd_T37 l2 x10_2).f0) ((rd_T37 l2 x10_2).f1) ((rd_T37 l2 x10_2).f2) t280 t281 t282 t283 t284 true _ ?side1 ?side2 A30.out).mono ?_
           (case side1 => repeat (first | exact (Kd.C_below HR0_0.out HB.out) | (with_reducible refine Kd.C_alloc ?_ _) | (with_reducible refine Kd.C_drewN ?_ _) | (with_reducible refine Kd.C_drew ?_)))
           (case side2 => exact HC0_0.out)
           rintro e w35 ⟨rfl, hb⟩
           refine ⟨_, rfl, ?_⟩
           obtain ⟨BK273, BK274, BK286, HB⟩ := And.intro (Aside0.mk (blk_below (g := gb273) (o := .cells #[.slice A0_0 l0_0.length c0_0, .int .i64 a0_1, .int .i64 a0_2] 24 (0, 0)) (by (with_reducible repeat (first | refine blk_drewN ?_ _ | refine blk_drew ?_ | refine blk_alloc ?_ _)); exact BK273.out) hb)) (And.intro (Aside0.mk (blk_below (g := gb274) (o := .cells #[.int .u8 x275000_2, .int .i64 x275001_2, .int .i64 x275002_2, .int .i64 x275003_2, .int .i64 x275004_2] 31 (0, 0)) (by (with_reducible repeat (first | refine blk_drewN ?_ _ | refine blk_drew ?_ | refine blk_alloc ?_ _)); exact BK274.out) hb)) (And.intro (Aside0.mk (blk_below (g := gb286) (o := .cells #[.int .u8 0, .int .i64 0, .int .i64 0, .int .i64 0, .int .i64 0] 31 (0, 0)) (by (with_reducible repeat (first | refine blk_drewN ?_ _ | refine blk_drew ?_ | refine blk_alloc ?_ _)); exact BK286.out) hb)) (Aside0.mk (below_step (by repeat (first | (with_reducible first | exact HB.out | apply below_alloc | apply pw_below_drewN | apply below_drew1 | refine below_set ?_ GE273.out | refine below_set ?_ GE274.out | refine below_set ?_ GE286.out) | exact HB.out)) hb))))
           (try clear hb)
           (try clear hb2)
           (try clear hk)
           (try clear hi)
           refine hK.out _ _ ⟨(blk_cell BK273.out 0).trans rfl, (blk_cell BK273.out 1).trans rfl, (blk_cell BK273.out 2).trans rfl, (blk_cell BK274.out 0).trans rfl, (blk_cell BK274.out 1).trans rfl, (blk_cell BK274.out 2).trans rfl, (blk_cell BK274.out 3).trans rfl, (blk_cell BK274.out 4).trans rfl, (cl_ HB.out hw277_0), (cl_ HB.out hw277_1), (cl_ HB.out hw277_2), (cl_ HB.out hw278_0), (cl_ HB.out hw278_1), (cl_ HB.out hw278_2), (cl_ HB.out hw279_0), (cl_ HB.out hw279_1), (cl_ HB.out hw279_2)⟩ (fun hHeld => ?_)
           clear hK K
           refine norm_ (a' := ?_) ?_ ?_
           rotate_left
           ·
            show Act.put _ (some 61) _ = _
            simp only [Act.put, sa_, s0_, s1_, i64_w, i32_w]
            rfl
           refine pA_ 18 43 ?_ (b_ 24 2621439) (any_of HT_.out (by kernel_rfl)) rfl rfl (fun _ _ _ h => h) (by rfl) ?_ ?_ ?_ ?_
           rotate_left
           ·
            intro w'
            go_simp
            with_reducible rfl
           rotate_left
           ·
            simp only [Act.put, sa_, s0_, s1_, i64_w, i32_w]
            rfl
           refine pA_ 19 62 ?_ (b_ 24 3145727) (any_of HT_.out (by kernel_rfl)) rfl rfl (fun _ _ _ h => h) (by rfl) ?_ ?_ ?_ ?_
           rotate_left
           ·
            intro w'
            go_simp
            with_reducible rfl
           rotate_left
           ·
            simp only [Act.put, sa_, s0_, s1_, i64_w, i32_w]
            rfl
           refine pA_ 20 63 ?_ (b_ 24 4194303) (any_of HT_.out (by kernel_rfl)) rfl rfl (fun _ _ _ h => h) (by rfl) ?_ ?_ ?_ ?_
           rotate_left
           ·
            intro w'
            go_simp
            with_reducible rfl
           rotate_left
           ·
            simp only [Act.put, sa_, s0_, s1_, i64_w, i32_w]
            rfl
           exact norm_ (by simp only [putAll, Act.put, sa_, s0_, s1_]) (hCont (gb286) _ ⟨hHeld, (by (with_reducible repeat (first | refine blk_drewN ?_ _ | refine blk_drew ?_ | refine blk_alloc ?_ _)); exact BK273.out), (by (with_reducible repeat (first | refine blk_drewN ?_ _ | refine blk_drew ?_ | refine blk_alloc ?_ _)); exact BK274.out), (by (with_reducible repeat (first | refine blk_drewN ?_ _ | refine blk_drew ?_ | refine blk_alloc ?_ _)); exact BK286.out), GW286.out, GE286.out, NB273_286.out, NB286_273.out, NB274_286.out, NB286_274.out, (by repeat (first | (with_reducible first | exact HB.out | apply below_alloc | apply pw_below_drewN | apply below_drew1 | refine below_set ?_ GE273.out | refine below_set ?_ GE274.out | refine below_set ?_ GE286.out) | exact HB.out))⟩)
         rintro gb286 w36 ⟨hS_, h0_, h1_, h2_, h3_, h4_, h5_, h6_, h7_, h8_, h9_⟩
         have n0_ : Aside0 (w36.heap[gb273]? = some (.cells #[.slice A0_0 l0_0.length c0_0, .int .i64 a0_1, .int .i64 a0_2] 24 (0, 0))) := ⟨h0_⟩
         have n1_ : Aside0 (w36.heap[gb274]? = some (.cells #[.int .u8 x275000_2, .int .i64 x275001_2, .int .i64 x275002_2, .int .i64 x275003_2, .int .i64 x275004_2] 31 (0, 0))) := ⟨h1_⟩
         have n2_ : Aside0 (w36.heap[gb286]? = some (.cells #[.int .u8 0, .int .i64 0, .int .i64 0, .int .i64 0, .int .i64 0] 31 (0, 0))) := ⟨h2_⟩
         have n3_ : Aside0 (w.heap.size ≤ gb286) := ⟨h3_⟩
         have n4_ : Aside0 (w.heap.size ≤ gb286) := ⟨h4_⟩
         have n5_ : Aside0 (gb273 ≠ gb286) := ⟨h5_⟩
         have n6_ : Aside0 (gb286 ≠ gb273) := ⟨h6_⟩
         have n7_ : Aside0 (gb274 ≠ gb286) := ⟨h7_⟩
         have n8_ : Aside0 (gb286 ≠ gb274) := ⟨h8_⟩
         have n9_ : Aside0 (Below w.heap.size w w36) := ⟨h9_⟩
         clear BK273
         clear BK274
         clear HB
         clear h0_ h1_ h2_ h3_ h4_ h5_ h6_ h7_ h8_ h9_
         have BK273 := n0_
         have BK274 := n1_
         have BK286 := n2_
         have GW286 := n3_
         have GE286 := n4_
         have NB273_286 := n5_
         have NB286_273 := n6_
         have NB274_286 := n7_
         have NB286_274 := n8_
         have HB := n9_
         clear n0_ n1_ n2_ n3_ n4_ n5_ n6_ n7_ n8_ n9_
         have hHeld : w36.cell? ⟨gb273, 0, none⟩ = some (.slice A0_0 l0_0.length c0_0) ∧ w36.cell? ⟨gb273, 1, none⟩ = some (.int .i64 a0_1) ∧ w36.cell? ⟨gb273, 2, none⟩ = some (.int .i64 a0_2) ∧ w36.cell? ⟨gb274, 0, none⟩ = some (.int .u8 x275000_2) ∧ w36.cell? ⟨gb274, 1, none⟩ = some (.int .i64 x275001_2) ∧ w36.cell? ⟨gb274, 2, none⟩ = some (.int .i64 x275002_2) ∧ w36.cell? ⟨gb274, 3, none⟩ = some (.int .i64 x275003_2) ∧ w36.cell? ⟨gb274, 4, none⟩ = some (.int .i64 x275004_2) ∧ w36.cell? (ad277.add ((x10_2).toNat * 3)) = some (.int .u8 ((rd_T37 l2 x10_2).f0)) ∧ w36.cell? ⟨(ad277.add ((x10_2).toNat * 3)).block, (ad277.add ((x10_2).toNat * 3)).off + 1, none⟩ = some (.int .i64 ((rd_T37 l2 x10_2).f1)) ∧ w36.cell? ⟨(ad277.add ((x10_2).toNat * 3)).block, (ad277.add ((x10_2).toNat * 3)).off + 2, none⟩ = some (.int .i64 ((rd_T37 l2 x10_2).f2)) ∧ w36.cell? (ad277.add ((x10_2).toNat * 3)) = some (.int .u8 ((rd_T37 l2 x10_2).f0)) ∧ w36.cell? ⟨(ad277.add ((x10_2).toNat * 3)).block, (ad277.add ((x10_2).toNat * 3)).off + 1, none⟩ = some (.int .i64 ((rd_T37 l2 x10_2).f1)) ∧ w36.cell? ⟨(ad277.add ((x10_2).toNat * 3)).block, (ad277.add ((x10_2).toNat * 3)).off + 2, none⟩ = some (.int .i64 ((rd_T37 l2 x10_2).f2)) ∧ w36.cell? (ad277.add ((x10_2).toNat * 3)) = some (.int .u8 ((rd_T37 l2 x10_2).f0)) ∧ w36.cell? ⟨(ad277.add ((x10_2).toNat * 3)).block, (ad277.add ((x10_2).toNat * 3)).off + 1, none⟩ = some (.int .i64 ((rd_T37 l2 x10_2).f1)) ∧ w36.cell? ⟨(ad277.add ((x10_2).toNat * 3)).block, (ad277.add ((x10_2).toNat * 3)).off + 2, none⟩ = some (.int .i64 ((rd_T37 l2 x10_2).f2)) := hS_
         refine norm_ (a' := ?_) ?_ ?_
         rotate_left
         ·
          simp only [putAll, Act.put, sa_, s0_, s1_]
          rfl
         refine one_ (i := 22) (N := none) (b_ 24 8388607) rfl rfl (one_of HT_.out (by kernel_rfl)) (by decide) (fun K hK => ?_)
         have hs37 : w36.cell? ⟨gb286, 0, none⟩ = some (.int .u8 0) := (blk_cell BK286.out 0).trans rfl
         have hfs37 := blk_frozen BK286.out 0
         have hns37_0 := NB273_286.out
         have hns37_1 := NB274_286.out
         have hms37_0 := NB286_273.out
         have hms37_1 := NB286_274.out
         have hs38 : w36.cell? ⟨gb286, 1, none⟩ = some (.int .i64 0) := (blk_cell BK286.out 1).trans rfl
         have hfs38 := blk_frozen BK286.out 1
         have hns38_0 := NB273_286.out
         have hns38_1 := NB274_286.out
         have hms38_0 := NB286_273.out
         have hms38_1 := NB286_274.out
         have hs39 : w36.cell? ⟨gb286, 2, none⟩ = some (.int .i64 0) := (blk_cell BK286.out 2).trans rfl
         have hfs39 := blk_frozen BK286.out 2
         have hns39_0 := NB273_286.out
         have hns39_1 := NB274_286.out
         have hms39_0 := NB286_273.out
         have hms39_1 := NB286_274.out
         have hs40 : w36.cell? ⟨gb286, 3, none⟩ = some (.int .i64 0) := (blk_cell BK286.out 3).trans rfl
         have hfs40 := blk_frozen BK286.out 3
         have hns40_0 := NB273_286.out
         have hns40_1 := NB274_286.out
         have hms40_0 := NB286_273.out
         have hms40_1 := NB286_274.out
         have hs41 : w36.cell? ⟨gb286, 4, none⟩ = some (.int .i64 0) := (blk_cell BK286.out 4).trans rfl
         have hfs41 := blk_frozen BK286.out 4
         have hns41_0 := NB273_286.out
         have hns41_1 := NB274_286.out
         have hms41_0 := NB286_273.out
         have hms41_1 := NB286_274.out
         refine skip_ (w1 := ?_) (by rfl) rfl ?_ ?_
         rotate_left
         ·
          go_simp
          rfl
         refine hK.out _ _ ⟨((cell_far (p := ⟨gb286, _, none⟩) NB273_286.out _).trans (((cell_far (p := ⟨gb286, _, none⟩) NB273_286.out _).trans (((cell_far (p := ⟨gb286, _, none⟩) NB273_286.out _).trans (((cell_far (p := ⟨gb286, _, none⟩) NB273_286.out _).trans (((cell_far (p := ⟨gb286, _, none⟩) NB273_286.out _).trans (hHeld.1)))))))))), ((cell_far (p := ⟨gb286, _, none⟩) NB273_286.out _).trans (((cell_far (p := ⟨gb286, _, none⟩) NB273_286.out _).trans (((cell_far (p := ⟨gb286, _, none⟩) NB273_286.out _).trans (((cell_far (p := ⟨gb286, _, none⟩) NB273_286.out _).trans (((cell_far (p := ⟨gb286, _, none⟩) NB273_286.out _).trans (hHeld.2.1)))))))))), ((cell_far (p := ⟨gb286, _, none⟩) NB273_286.out _).trans (((cell_far (p := ⟨gb286, _, none⟩) NB273_286.out _).trans (((cell_far (p := ⟨gb286, _, none⟩) NB273_286.out _).trans (((cell_far (p := ⟨gb286, _, none⟩) NB273_286.out _).trans (((cell_far (p := ⟨gb286, _, none⟩) NB273_286.out _).trans (hHeld.2.2.1)))))))))), ((cell_far (p := ⟨gb286, _, none⟩) NB274_286.out _).trans (((cell_far (p := ⟨gb286, _, none⟩) NB274_286.out _).trans (((cell_far (p := ⟨gb286, _, none⟩) NB274_286.out _).trans (((cell_far (p := ⟨gb286, _, none⟩) NB274_286.out _).trans (((cell_far (p := ⟨gb286, _, none⟩) NB274_286.out _).trans (hHeld.2.2.2.1)))))))))), ((cell_far (p := ⟨gb286, _, none⟩) NB274_286.out _).trans (((cell_far (p := ⟨gb286, _, none⟩) NB274_286.out _).trans (((cell_far (p := ⟨gb286, _, none⟩) NB274_286.out _).trans (((cell_far (p := ⟨gb286, _, none⟩) NB274_286.out _).trans (((cell_far (p := ⟨gb286, _, none⟩) NB274_286.out _).trans (hHeld.2.2.2.2.1)))))))))), ((cell_far (p := ⟨gb286, _, none⟩) NB274_286.out _).trans (((cell_far (p := ⟨gb286, _, none⟩) NB274_286.out _).trans (((cell_far (p := ⟨gb286, _, none⟩) NB274_286.out _).trans (((cell_far (p := ⟨gb286, _, none⟩) NB274_286.out _).trans (((cell_far (p := ⟨gb286, _, none⟩) NB274_286.out _).trans (hHeld.2.2.2.2.2.1)))))))))), ((cell_far (p := ⟨gb286, _, none⟩) NB274_286.out _).trans (((cell_far (p := ⟨gb286, _, none⟩) NB274_286.out _).trans (((cell_far (p := ⟨gb286, _, none⟩) NB274_286.out _).trans (((cell_far (p := ⟨gb286, _, none⟩) NB274_286.out _).trans (((cell_far (p := ⟨gb286, _, none⟩) NB274_286.out _).trans (hHeld.2.2.2.2.2.2.1)))))))))), ((cell_far (p := ⟨gb286, _, none⟩) NB274_286.out _).trans (((cell_far (p := ⟨gb286, _, none⟩) NB274_286.out _).trans (((cell_far (p := ⟨gb286, _, none⟩) NB274_286.out _).trans (((cell_far (p := ⟨gb286, _, none⟩) NB274_286.out _).trans (((cell_far (p := ⟨gb286, _, none⟩) NB274_286.out _).trans (hHeld.2.2.2.2.2.2.2.1)))))))))), ((cell_far (p := ⟨gb286, _, none⟩) (by first | exact Nat.ne_of_lt (Nat.lt_of_lt_of_le (by have := World.block_lt_of_cell? _ _ hw277_0; first | rwa [add_block] at this | exact this) GW286.out) | (rw [add_block]; exact Nat.ne_of_lt (Nat.lt_of_lt_of_le (by have := World.block_lt_of_cell? _ _ hw277_0; first | rwa [add_block] at this | exact this) GW286.out)) | (show (Addr.add _ _).block ≠ _; rw [add_block]; exact Nat.ne_of_lt (Nat.lt_of_lt_of_le (by have := World.block_lt_of_cell? _ _ hw277_0; first | rwa [add_block] at this | exact this) GW286.out)) | (dsimp only; exact Nat.ne_of_lt (Nat.lt_of_lt_of_le (by have := World.block_lt_of_cell? _ _ hw277_0; first | rwa [add_block] at this | exact this) GW286.out))) _).trans (((cell_far (p := ⟨gb286, _, none⟩) (by first | exact Nat.ne_of_lt (Nat.lt_of_lt_of_le (by have := World.block_lt_of_cell? _ _ hw277_0; first | rwa [add_block] at this | exact this) GW286.out) | (rw [add_block]; exact Nat.ne_of_lt (Nat.lt_of_lt_of_le (by have := World.block_lt_of_cell? _ _ hw277_0; first | rwa [add_block] at this | exact this) GW286.out)) | (show (Addr.add _ _).block ≠ _; rw [add_block]; exact Nat.ne_of_lt (Nat.lt_of_lt_of_le (by have := World.block_lt_of_cell? _ _ hw277_0; first | rwa [add_block] at this | exact this) GW286.out)) | (dsimp only; exact Nat.ne_of_lt (Nat.lt_of_lt_of_le (by have := World.block_lt_of_cell? _ _ hw277_0; first | rwa [add_block] at this | exact this) GW286.out))) _).trans (((cell_far (p := ⟨gb286, _, none⟩) (by first | exact Nat.ne_of_lt (Nat.lt_of_lt_of_le (by have := World.block_lt_of_cell? _ _ hw277_0; first | rwa [add_block] at this | exact this) GW286.out) | (rw [add_block]; exact Nat.ne_of_lt (Nat.lt_of_lt_of_le (by have := World.block_lt_of_cell? _ _ hw277_0; first | rwa [add_block] at this | exact this) GW286.out)) | (show (Addr.add _ _).block ≠ _; rw [add_block]; exact Nat.ne_of_lt (Nat.lt_of_lt_of_le (by have := World.block_lt_of_cell? _ _ hw277_0; first | rwa [add_block] at this | exact this) GW286.out)) | (dsimp only; exact Nat.ne_of_lt (Nat.lt_of_lt_of_le (by have := World.block_lt_of_cell? _ _ hw277_0; first | rwa [add_block] at this | exact this) GW286.out))) _).trans (((cell_far (p := ⟨gb286, _, none⟩) (by first | exact Nat.ne_of_lt (Nat.lt_of_lt_of_le (by have := World.block_lt_of_cell? _ _ hw277_0; first | rwa [add_block] at this | exact this) GW286.out) | (rw [add_block]; exact Nat.ne_of_lt (Nat.lt_of_lt_of_le (by have := World.block_lt_of_cell? _ _ hw277_0; first | rwa [add_block] at this | exact this) GW286.out)) | (show (Addr.add _ _).block ≠ _; rw [add_block]; exact Nat.ne_of_lt (Nat.lt_of_lt_of_le (by have := World.block_lt_of_cell? _ _ hw277_0; first | rwa [add_block] at this | exact this) GW286.out)) | (dsimp only; exact Nat.ne_of_lt (Nat.lt_of_lt_of_le (by have := World.block_lt_of_cell? _ _ hw277_0; first | rwa [add_block] at this | exact this) GW286.out))) _).trans (((cell_far (p := ⟨gb286, _, none⟩) (by first | exact Nat.ne_of_lt (Nat.lt_of_lt_of_le (by have := World.block_lt_of_cell? _ _ hw277_0; first | rwa [add_block] at this | exact this) GW286.out) | (rw [add_block]; exact Nat.ne_of_lt (Nat.lt_of_lt_of_le (by have := World.block_lt_of_cell? _ _ hw277_0; first | rwa [add_block] at this | exact this) GW286.out)) | (show (Addr.add _ _).block ≠ _; rw [add_block]; exact Nat.ne_of_lt (Nat.lt_of_lt_of_le (by have := World.block_lt_of_cell? _ _ hw277_0; first | rwa [add_block] at this | exact this) GW286.out)) | (dsimp only; exact Nat.ne_of_lt (Nat.lt_of_lt_of_le (by have := World.block_lt_of_cell? _ _ hw277_0; first | rwa [add_block] at this | exact this) GW286.out))) _).trans (hHeld.2.2.2.2.2.2.2.2.1)))))))))), ((cell_far (p := ⟨gb286, _, none⟩) (by first | exact Nat.ne_of_lt (Nat.lt_of_lt_of_le (by have := World.block_lt_of_cell? _ _ hw277_1; first | rwa [add_block] at this | exact this) GW286.out) | (rw [add_block]; exact Nat.ne_of_lt (Nat.lt_of_lt_of_le (by have := World.block_lt_of_cell? _ _ hw277_1; first | rwa [add_block] at this | exact this) GW286.out)) | (show (Addr.add _ _).block ≠ _; rw [add_block]; exact Nat.ne_of_lt (Nat.lt_of_lt_of_le (by have := World.block_lt_of_cell? _ _ hw277_1; first | rwa [add_block] at this | exact this) GW286.out)) | (dsimp only; exact Nat.ne_of_lt (Nat.lt_of_lt_of_le (by have := World.block_lt_of_cell? _ _ hw277_1; first | rwa [add_block] at this | exact this) GW286.out))) _).trans (((cell_far (p := ⟨gb286, _, none⟩) (by first | exact Nat.ne_of_lt (Nat.lt_of_lt_of_le (by have := World.block_lt_of_cell? _ _ hw277_1; first | rwa [add_block] at this | exact this) GW286.out) | (rw [add_block]; exact Nat.ne_of_lt (Nat.lt_of_lt_of_le (by have := World.block_lt_of_cell? _ _ hw277_1; first | rwa [add_block] at this | exact this) GW286.out)) | (show (Addr.add _ _).block ≠ _; rw [add_block]; exact Nat.ne_of_lt (Nat.lt_of_lt_of_le (by have := World.block_lt_of_cell? _ _ hw277_1; first | rwa [add_block] at this | exact this) GW286.out)) | (dsimp only; exact Nat.ne_of_lt (Nat.lt_of_lt_of_le (by have := World.block_lt_of_cell? _ _ hw277_1; first | rwa [add_block] at this | exact this) GW286.out))) _).trans (((cell_far (p := ⟨gb286, _, none⟩) (by first | exact Nat.ne_of_lt (Nat.lt_of_lt_of_le (by have := World.block_lt_of_cell? _ _ hw277_1; first | rwa [add_block] at this | exact this) GW286.out) | (rw [add_block]; exact Nat.ne_of_lt (Nat.lt_of_lt_of_le (by have := World.block_lt_of_cell? _ _ hw277_1; first | rwa [add_block] at this | exact this) GW286.out)) | (show (Addr.add _ _).block ≠ _; rw [add_block]; exact Nat.ne_of_lt (Nat.lt_of_lt_of_le (by have := World.block_lt_of_cell? _ _ hw277_1; first | rwa [add_block] at this | exact this) GW286.out)) | (dsimp only; exact Nat.ne_of_lt (Nat.lt_of_lt_of_le (by have := World.block_lt_of_cell? _ _ hw277_1; first | rwa [add_block] at this | exact this) GW286.out))) _).trans (((cell_far (p := ⟨gb286, _, none⟩) (by first | exact Nat.ne_of_lt (Nat.lt_of_lt_of_le (by have := World.block_lt_of_cell? _ _ hw277_1; first | rwa [add_block] at this | exact this) GW286.out) | (rw [add_block]; exact Nat.ne_of_lt (Nat.lt_of_lt_of_le (by have := World.block_lt_of_cell? _ _ hw277_1; first | rwa [add_block] at this | exact this) GW286.out)) | (show (Addr.add _ _).block ≠ _; rw [add_block]; exact Nat.ne_of_lt (Nat.lt_of_lt_of_le (by have := World.block_lt_of_cell? _ _ hw277_1; first | rwa [add_block] at this | exact this) GW286.out)) | (dsimp only; exact Nat.ne_of_lt (Nat.lt_of_lt_of_le (by have := World.block_lt_of_cell? _ _ hw277_1; first | rwa [add_block] at this | exact this) GW286.out))) _).trans (((cell_far (p := ⟨gb286, _, none⟩) (by first | exact Nat.ne_of_lt (Nat.lt_of_lt_of_le (by have := World.block_lt_of_cell? _ _ hw277_1; first | rwa [add_block] at this | exact this) GW286.out) | (rw [add_block]; exact Nat.ne_of_lt (Nat.lt_of_lt_of_le (by have := World.block_lt_of_cell? _ _ hw277_1; first | rwa [add_block] at this | exact this) GW286.out)) | (show (Addr.add _ _).block ≠ _; rw [add_block]; exact Nat.ne_of_lt (Nat.lt_of_lt_of_le (by have := World.block_lt_of_cell? _ _ hw277_1; first | rwa [add_block] at this | exact this) GW286.out)) | (dsimp only; exact Nat.ne_of_lt (Nat.lt_of_lt_of_le (by have := World.block_lt_of_cell? _ _ hw277_1; first | rwa [add_block] at this | exact this) GW286.out))) _).trans (hHeld.2.2.2.2.2.2.2.2.2.1)))))))))), ((cell_far (p := ⟨gb286, _, none⟩) (by first | exact Nat.ne_of_lt (Nat.lt_of_lt_of_le (by have := World.block_lt_of_cell? _ _ hw277_2; first | rwa [add_block] at this | exact this) GW286.out) | (rw [add_block]; exact Nat.ne_of_lt (Nat.lt_of_lt_of_le (by have := World.block_lt_of_cell? _ _ hw277_2; first | rwa [add_block] at this | exact this) GW286.out)) | (show (Addr.add _ _).block ≠ _; rw [add_block]; exact Nat.ne_of_lt (Nat.lt_of_lt_of_le (by have := World.block_lt_of_cell? _ _ hw277_2; first | rwa [add_block] at this | exact this) GW286.out)) | (dsimp only; exact Nat.ne_of_lt (Nat.lt_of_lt_of_le (by have := World.block_lt_of_cell? _ _ hw277_2; first | rwa [add_block] at this | exact this) GW286.out))) _).trans (((cell_far (p := ⟨gb286, _, none⟩) (by first | exact Nat.ne_of_lt (Nat.lt_of_lt_of_le (by have := World.block_lt_of_cell? _ _ hw277_2; first | rwa [add_block] at this | exact this) GW286.out) | (rw [add_block]; exact Nat.ne_of_lt (Nat.lt_of_lt_of_le (by have := World.block_lt_of_cell? _ _ hw277_2; first | rwa [add_block] at this | exact this) GW286.out)) | (show (Addr.add _ _).block ≠ _; rw [add_block]; exact Nat.ne_of_lt (Nat.lt_of_lt_of_le (by have := World.block_lt_of_cell? _ _ hw277_2; first | rwa [add_block] at this | exact this) GW286.out)) | (dsimp only; exact Nat.ne_of_lt (Nat.lt_of_lt_of_le (by have := World.block_lt_of_cell? _ _ hw277_2; first | rwa [add_block] at this | exact this) GW286.out))) _).trans (((cell_far (p := ⟨gb286, _, none⟩) (by first | exact Nat.ne_of_lt (Nat.lt_of_lt_of_le (by have := World.block_lt_of_cell? _ _ hw277_2; first | rwa [add_block] at this | exact this) GW286.out) | (rw [add_block]; exact Nat.ne_of_lt (Nat.lt_of_lt_of_le (by have := World.block_lt_of_cell? _ _ hw277_2; first | rwa [add_block] at this | exact this) GW286.out)) | (show (Addr.add _ _).block ≠ _; rw [add_block]; exact Nat.ne_of_lt (Nat.lt_of_lt_of_le (by have := World.block_lt_of_cell? _ _ hw277_2; first | rwa [add_block] at this | exact this) GW286.out)) | (dsimp only; exact Nat.ne_of_lt (Nat.lt_of_lt_of_le (by have := World.block_lt_of_cell? _ _ hw277_2; first | rwa [add_block] at this | exact this) GW286.out))) _).trans (((cell_far (p := ⟨gb286, _, none⟩) (by first | exact Nat.ne_of_lt (Nat.lt_of_lt_of_le (by have := World.block_lt_of_cell? _ _ hw277_2; first | rwa [add_block] at this | exact this) GW286.out) | (rw [add_block]; exact Nat.ne_of_lt (Nat.lt_of_lt_of_le (by have := World.block_lt_of_cell? _ _ hw277_2; first | rwa [add_block] at this | exact this) GW286.out)) | (show (Addr.add _ _).block ≠ _; rw [add_block]; exact Nat.ne_of_lt (Nat.lt_of_lt_of_le (by have := World.block_lt_of_cell? _ _ hw277_2; first | rwa [add_block] at this | exact this) GW286.out)) | (dsimp only; exact Nat.ne_of_lt (Nat.lt_of_lt_of_le (by have := World.block_lt_of_cell? _ _ hw277_2; first | rwa [add_block] at this | exact this) GW286.out))) _).trans (((cell_far (p := ⟨gb286, _, none⟩) (by first | exact Nat.ne_of_lt (Nat.lt_of_lt_of_le (by have := World.block_lt_of_cell? _ _ hw277_2; first | rwa [add_block] at this | exact this) GW286.out) | (rw [add_block]; exact Nat.ne_of_lt (Nat.lt_of_lt_of_le (by have := World.block_lt_of_cell? _ _ hw277_2; first | rwa [add_block] at this | exact this) GW286.out)) | (show (Addr.add _ _).block ≠ _; rw [add_block]; exact Nat.ne_of_lt (Nat.lt_of_lt_of_le (by have := World.block_lt_of_cell? _ _ hw277_2; first | rwa [add_block] at this | exact this) GW286.out)) | (dsimp only; exact Nat.ne_of_lt (Nat.lt_of_lt_of_le (by have := World.block_lt_of_cell? _ _ hw277_2; first | rwa [add_block] at this | exact this) GW286.out))) _).trans (hHeld.2.2.2.2.2.2.2.2.2.2.1)))))))))), ((cell_far (p := ⟨gb286, _, none⟩) (by first | exact Nat.ne_of_lt (Nat.lt_of_lt_of_le (by have := World.block_lt_of_cell? _ _ hw278_0; first | rwa [add_block] at this | exact this) GW286.out) | (rw [add_block]; exact Nat.ne_of_lt (Nat.lt_of_lt_of_le (by have := World.block_lt_of_cell? _ _ hw278_0; first | rwa [add_block] at this | exact this) GW286.out)) | (show (Addr.add _ _).block ≠ _; rw [add_block]; exact Nat.ne_of_lt (Nat.lt_of_lt_of_le (by have := World.block_lt_of_cell? _ _ hw278_0; first | rwa [add_block] at this | exact this) GW286.out)) | (dsimp only; exact Nat.ne_of_lt (Nat.lt_of_lt_of_le (by have := World.block_lt_of_cell? _ _ hw278_0; first | rwa [add_block] at this | exact this) GW286.out))) _).trans (((cell_far (p := ⟨gb286, _, none⟩) (by first | exact Nat.ne_of_lt (Nat.lt_of_lt_of_le (by have := World.block_lt_of_cell? _ _ hw278_0; first | rwa [add_block] at this | exact this) GW286.out) | (rw [add_block]; exact Nat.ne_of_lt (Nat.lt_of_lt_of_le (by have := World.block_lt_of_cell? _ _ hw278_0; first | rwa [add_block] at this | exact this) GW286.out)) | (show (Addr.add _ _).block ≠ _; rw [add_block]; exact Nat.ne_of_lt (Nat.lt_of_lt_of_le (by have := World.block_lt_of_cell? _ _ hw278_0; first | rwa [add_block] at this | exact this) GW286.out)) | (dsimp only; exact Nat.ne_of_lt (Nat.lt_of_lt_of_le (by have := World.block_lt_of_cell? _ _ hw278_0; first | rwa [add_block] at this | exact this) GW286.out))) _).trans (((cell_far (p := ⟨gb286, _, none⟩) (by first | exact Nat.ne_of_lt (Nat.lt_of_lt_of_le (by have := World.block_lt_of_cell? _ _ hw278_0; first | rwa [add_block] at this | exact this) GW286.out) | (rw [add_block]; exact Nat.ne_of_lt (Nat.lt_of_lt_of_le (by have := World.block_lt_of_cell? _ _ hw278_0; first | rwa [add_block] at this | exact this) GW286.out)) | (show (Addr.add _ _).block ≠ _; rw [add_block]; exact Nat.ne_of_lt (Nat.lt_of_lt_of_le (by have := World.block_lt_of_cell? _ _ hw278_0; first | rwa [add_block] at this | exact this) GW286.out)) | (dsimp only; exact Nat.ne_of_lt (Nat.lt_of_lt_of_le (by have := World.block_lt_of_cell? _ _ hw278_0; first | rwa [add_block] at this | exact this) GW286.out))) _).trans (((cell_far (p := ⟨gb286, _, none⟩) (by first | exact Nat.ne_of_lt (Nat.lt_of_lt_of_le (by have := World.block_lt_of_cell? _ _ hw278_0; first | rwa [add_block] at this | exact this) GW286.out) | (rw [add_block]; exact Nat.ne_of_lt (Nat.lt_of_lt_of_le (by have := World.block_lt_of_cell? _ _ hw278_0; first | rwa [add_block] at this | exact this) GW286.out)) | (show (Addr.add _ _).block ≠ _; rw [add_block]; exact Nat.ne_of_lt (Nat.lt_of_lt_of_le (by have := World.block_lt_of_cell? _ _ hw278_0; first | rwa [add_block] at this | exact this) GW286.out)) | (dsimp only; exact Nat.ne_of_lt (Nat.lt_of_lt_of_le (by have := World.block_lt_of_cell? _ _ hw278_0; first | rwa [add_block] at this | exact this) GW286.out))) _).trans (((cell_far (p := ⟨gb286, _, none⟩) (by first | exact Nat.ne_of_lt (Nat.lt_of_lt_of_le (by have := World.block_lt_of_cell? _ _ hw278_0; first | rwa [add_block] at this | exact this) GW286.out) | (rw [add_block]; exact Nat.ne_of_lt (Nat.lt_of_lt_of_le (by have := World.block_lt_of_cell? _ _ hw278_0; first | rwa [add_block] at this | exact this) GW286.out)) | (show (Addr.add _ _).block ≠ _; rw [add_block]; exact Nat.ne_of_lt (Nat.lt_of_lt_of_le (by have := World.block_lt_of_cell? _ _ hw278_0; first | rwa [add_block] at this | exact this) GW286.out)) | (dsimp only; exact Nat.ne_of_lt (Nat.lt_of_lt_of_le (by have := World.block_lt_of_cell? _ _ hw278_0; first | rwa [add_block] at this | exact this) GW286.out))) _).trans (hHeld.2.2.2.2.2.2.2.2.2.2.2.1)))))))))), ((cell_far (p := ⟨gb286, _, none⟩) (by first | exact Nat.ne_of_lt (Nat.lt_of_lt_of_le (by have := World.block_lt_of_cell? _ _ hw278_1; first | rwa [add_block] at this | exact this) GW286.out) | (rw [add_block]; exact Nat.ne_of_lt (Nat.lt_of_lt_of_le (by have := World.block_lt_of_cell? _ _ hw278_1; first | rwa [add_block] at this | exact this) GW286.out)) | (show (Addr.add _ _).block ≠ _; rw [add_block]; exact Nat.ne_of_lt (Nat.lt_of_lt_of_le (by have := World.block_lt_of_cell? _ _ hw278_1; first | rwa [add_block] at this | exact this) GW286.out)) | (dsimp only; exact Nat.ne_of_lt (Nat.lt_of_lt_of_le (by have := World.block_lt_of_cell? _ _ hw278_1; first | rwa [add_block] at this | exact this) GW286.out))) _).trans (((cell_far (p := ⟨gb286, _, none⟩) (by first | exact Nat.ne_of_lt (Nat.lt_of_lt_of_le (by have := World.block_lt_of_cell? _ _ hw278_1; first | rwa [add_block] at this | exact this) GW286.out) | (rw [add_block]; exact Nat.ne_of_lt (Nat.lt_of_lt_of_le (by have := World.block_lt_of_cell? _ _ hw278_1; first | rwa [add_block] at this | exact this) GW286.out)) | (show (Addr.add _ _).block ≠ _; rw [add_block]; exact Nat.ne_of_lt (Nat.lt_of_lt_of_le (by have := World.block_lt_of_cell? _ _ hw278_1; first | rwa [add_block] at this | exact this) GW286.out)) | (dsimp only; exact Nat.ne_of_lt (Nat.lt_of_lt_of_le (by have := World.block_lt_of_cell? _ _ hw278_1; first | rwa [add_block] at this | exact this) GW286.out))) _).trans (((cell_far (p := ⟨gb286, _, none⟩) (by first | exact Nat.ne_of_lt (Nat.lt_of_lt_of_le (by have := World.block_lt_of_cell? _ _ hw278_1; first | rwa [add_block] at this | exact this) GW286.out) | (rw [add_block]; exact Nat.ne_of_lt (Nat.lt_of_lt_of_le (by have := World.block_lt_of_cell? _ _ hw278_1; first | rwa [add_block] at this | exact this) GW286.out)) | (show (Addr.add _ _).block ≠ _; rw [add_block]; exact Nat.ne_of_lt (Nat.lt_of_lt_of_le (by have := World.block_lt_of_cell? _ _ hw278_1; first | rwa [add_block] at this | exact this) GW286.out)) | (dsimp only; exact Nat.ne_of_lt (Nat.lt_of_lt_of_le (by have := World.block_lt_of_cell? _ _ hw278_1; first | rwa [add_block] at this | exact this) GW286.out))) _).trans (((cell_far (p := ⟨gb286, _, none⟩) (by first | exact Nat.ne_of_lt (Nat.lt_of_lt_of_le (by have := World.block_lt_of_cell? _ _ hw278_1; first | rwa [add_block] at this | exact this) GW286.out) | (rw [add_block]; exact Nat.ne_of_lt (Nat.lt_of_lt_of_le (by have := World.block_lt_of_cell? _ _ hw278_1; first | rwa [add_block] at this | exact this) GW286.out)) | (show (Addr.add _ _).block ≠ _; rw [add_block]; exact Nat.ne_of_lt (Nat.lt_of_lt_of_le (by have := World.block_lt_of_cell? _ _ hw278_1; first | rwa [add_block] at this | exact this) GW286.out)) | (dsimp only; exact Nat.ne_of_lt (Nat.lt_of_lt_of_le (by have := World.block_lt_of_cell? _ _ hw278_1; first | rwa [add_block] at this | exact this) GW286.out))) _).trans (((cell_far (p := ⟨gb286, _, none⟩) (by first | exact Nat.ne_of_lt (Nat.lt_of_lt_of_le (by have := World.block_lt_of_cell? _ _ hw278_1; first | rwa [add_block] at this | exact this) GW286.out) | (rw [add_block]; exact Nat.ne_of_lt (Nat.lt_of_lt_of_le (by have := World.block_lt_of_cell? _ _ hw278_1; first | rwa [add_block] at this | exact this) GW286.out)) | (show (Addr.add _ _).block ≠ _; rw [add_block]; exact Nat.ne_of_lt (Nat.lt_of_lt_of_le (by have := World.block_lt_of_cell? _ _ hw278_1; first | rwa [add_block] at this | exact this) GW286.out)) | (dsimp only; exact Nat.ne_of_lt (Nat.lt_of_lt_of_le (by have := World.block_lt_of_cell? _ _ hw278_1; first | rwa [add_block] at this | exact this) GW286.out))) _).trans (hHeld.2.2.2.2.2.2.2.2.2.2.2.2.1)))))))))), ((cell_far (p := ⟨gb286, _, none⟩) (by first | exact Nat.ne_of_lt (Nat.lt_of_lt_of_le (by have := World.block_lt_of_cell? _ _ hw278_2; first | rwa [add_block] at this | exact this) GW286.out) | (rw [add_block]; exact Nat.ne_of_lt (Nat.lt_of_lt_of_le (by have := World.block_lt_of_cell? _ _ hw278_2; first | rwa [add_block] at this | exact this) GW286.out)) | (show (Addr.add _ _).block ≠ _; rw [add_block]; exact Nat.ne_of_lt (Nat.lt_of_lt_of_le (by have := World.block_lt_of_cell? _ _ hw278_2; first | rwa [add_block] at this | exact this) GW286.out)) | (dsimp only; exact Nat.ne_of_lt (Nat.lt_of_lt_of_le (by have := World.block_lt_of_cell? _ _ hw278_2; first | rwa [add_block] at this | exact this) GW286.out))) _).trans (((cell_far (p := ⟨gb286, _, none⟩) (by first | exact Nat.ne_of_lt (Nat.lt_of_lt_of_le (by have := World.block_lt_of_cell? _ _ hw278_2; first | rwa [add_block] at this | exact this) GW286.out) | (rw [add_block]; exact Nat.ne_of_lt (Nat.lt_of_lt_of_le (by have := World.block_lt_of_cell? _ _ hw278_2; first | rwa [add_block] at this | exact this) GW286.out)) | (show (Addr.add _ _).block ≠ _; rw [add_block]; exact Nat.ne_of_lt (Nat.lt_of_lt_of_le (by have := World.block_lt_of_cell? _ _ hw278_2; first | rwa [add_block] at this | exact this) GW286.out)) | (dsimp only; exact Nat.ne_of_lt (Nat.lt_of_lt_of_le (by have := World.block_lt_of_cell? _ _ hw278_2; first | rwa [add_block] at this | exact this) GW286.out))) _).trans (((cell_far (p := ⟨gb286, _, none⟩) (by first | exact Nat.ne_of_lt (Nat.lt_of_lt_of_le (by have := World.block_lt_of_cell? _ _ hw278_2; first | rwa [add_block] at this | exact this) GW286.out) | (rw [add_block]; exact Nat.ne_of_lt (Nat.lt_of_lt_of_le (by have := World.block_lt_of_cell? _ _ hw278_2; first | rwa [add_block] at this | exact this) GW286.out)) | (show (Addr.add _ _).block ≠ _; rw [add_block]; exact Nat.ne_of_lt (Nat.lt_of_lt_of_le (by have := World.block_lt_of_cell? _ _ hw278_2; first | rwa [add_block] at this | exact this) GW286.out)) | (dsimp only; exact Nat.ne_of_lt (Nat.lt_of_lt_of_le (by have := World.block_lt_of_cell? _ _ hw278_2; first | rwa [add_block] at this | exact this) GW286.out))) _).trans (((cell_far (p := ⟨gb286, _, none⟩) (by first | exact Nat.ne_of_lt (Nat.lt_of_lt_of_le (by have := World.block_lt_of_cell? _ _ hw278_2; first | rwa [add_block] at this | exact this) GW286.out) | (rw [add_block]; exact Nat.ne_of_lt (Nat.lt_of_lt_of_le (by have := World.block_lt_of_cell? _ _ hw278_2; first | rwa [add_block] at this | exact this) GW286.out)) | (show (Addr.add _ _).block ≠ _; rw [add_block]; exact Nat.ne_of_lt (Nat.lt_of_lt_of_le (by have := World.block_lt_of_cell? _ _ hw278_2; first | rwa [add_block] at this | exact this) GW286.out)) | (dsimp only; exact Nat.ne_of_lt (Nat.lt_of_lt_of_le (by have := World.block_lt_of_cell? _ _ hw278_2; first | rwa [add_block] at this | exact this) GW286.out))) _).trans (((cell_far (p := ⟨gb286, _, none⟩) (by first | exact Nat.ne_of_lt (Nat.lt_of_lt_of_le (by have := World.block_lt_of_cell? _ _ hw278_2; first | rwa [add_block] at this | exact this) GW286.out) | (rw [add_block]; exact Nat.ne_of_lt (Nat.lt_of_lt_of_le (by have := World.block_lt_of_cell? _ _ hw278_2; first | rwa [add_block] at this | exact this) GW286.out)) | (show (Addr.add _ _).block ≠ _; rw [add_block]; exact Nat.ne_of_lt (Nat.lt_of_lt_of_le (by have := World.block_lt_of_cell? _ _ hw278_2; first | rwa [add_block] at this | exact this) GW286.out)) | (dsimp only; exact Nat.ne_of_lt (Nat.lt_of_lt_of_le (by have := World.block_lt_of_cell? _ _ hw278_2; first | rwa [add_block] at this | exact this) GW286.out))) _).trans (hHeld.2.2.2.2.2.2.2.2.2.2.2.2.2.1)))))))))), ((cell_far (p := ⟨gb286, _, none⟩) (by first | exact Nat.ne_of_lt (Nat.lt_of_lt_of_le (by have := World.block_lt_of_cell? _ _ hw279_0; first | rwa [add_block] at this | exact this) GW286.out) | (rw [add_block]; exact Nat.ne_of_lt (Nat.lt_of_lt_of_le (by have := World.block_lt_of_cell? _ _ hw279_0; first | rwa [add_block] at this | exact this) GW286.out)) | (show (Addr.add _ _).block ≠ _; rw [add_block]; exact Nat.ne_of_lt (Nat.lt_of_lt_of_le (by have := World.block_lt_of_cell? _ _ hw279_0; first | rwa [add_block] at this | exact this) GW286.out)) | (dsimp only; exact Nat.ne_of_lt (Nat.lt_of_lt_of_le (by have := World.block_lt_of_cell? _ _ hw279_0; first | rwa [add_block] at this | exact this) GW286.out))) _).trans (((cell_far (p := ⟨gb286, _, none⟩) (by first | exact Nat.ne_of_lt (Nat.lt_of_lt_of_le (by have := World.block_lt_of_cell? _ _ hw279_0; first | rwa [add_block] at this | exact this) GW286.out) | (rw [add_block]; exact Nat.ne_of_lt (Nat.lt_of_lt_of_le (by have := World.block_lt_of_cell? _ _ hw279_0; first | rwa [add_block] at this | exact this) GW286.out)) | (show (Addr.add _ _).block ≠ _; rw [add_block]; exact Nat.ne_of_lt (Nat.lt_of_lt_of_le (by have := World.block_lt_of_cell? _ _ hw279_0; first | rwa [add_block] at this | exact this) GW286.out)) | (dsimp only; exact Nat.ne_of_lt (Nat.lt_of_lt_of_le (by have := World.block_lt_of_cell? _ _ hw279_0; first | rwa [add_block] at this | exact this) GW286.out))) _).trans (((cell_far (p := ⟨gb286, _, none⟩) (by first | exact Nat.ne_of_lt (Nat.lt_of_lt_of_le (by have := World.block_lt_of_cell? _ _ hw279_0; first | rwa [add_block] at this | exact this) GW286.out) | (rw [add_block]; exact Nat.ne_of_lt (Nat.lt_of_lt_of_le (by have := World.block_lt_of_cell? _ _ hw279_0; first | rwa [add_block] at this | exact this) GW286.out)) | (show (Addr.add _ _).block ≠ _; rw [add_block]; exact Nat.ne_of_lt (Nat.lt_of_lt_of_le (by have := World.block_lt_of_cell? _ _ hw279_0; first | rwa [add_block] at this | exact this) GW286.out)) | (dsimp only; exact Nat.ne_of_lt (Nat.lt_of_lt_of_le (by have := World.block_lt_of_cell? _ _ hw279_0; first | rwa [add_block] at this | exact this) GW286.out))) _).trans (((cell_far (p := ⟨gb286, _, none⟩) (by first | exact Nat.ne_of_lt (Nat.lt_of_lt_of_le (by have := World.block_lt_of_cell? _ _ hw279_0; first | rwa [add_block] at this | exact this) GW286.out) | (rw [add_block]; exact Nat.ne_of_lt (Nat.lt_of_lt_of_le (by have := World.block_lt_of_cell? _ _ hw279_0; first | rwa [add_block] at this | exact this) GW286.out)) | (show (Addr.add _ _).block ≠ _; rw [add_block]; exact Nat.ne_of_lt (Nat.lt_of_lt_of_le (by have := World.block_lt_of_cell? _ _ hw279_0; first | rwa [add_block] at this | exact this) GW286.out)) | (dsimp only; exact Nat.ne_of_lt (Nat.lt_of_lt_of_le (by have := World.block_lt_of_cell? _ _ hw279_0; first | rwa [add_block] at this | exact this) GW286.out))) _).trans (((cell_far (p := ⟨gb286, _, none⟩) (by first | exact Nat.ne_of_lt (Nat.lt_of_lt_of_le (by have := World.block_lt_of_cell? _ _ hw279_0; first | rwa [add_block] at this | exact this) GW286.out) | (rw [add_block]; exact Nat.ne_of_lt (Nat.lt_of_lt_of_le (by have := World.block_lt_of_cell? _ _ hw279_0; first | rwa [add_block] at this | exact this) GW286.out)) | (show (Addr.add _ _).block ≠ _; rw [add_block]; exact Nat.ne_of_lt (Nat.lt_of_lt_of_le (by have := World.block_lt_of_cell? _ _ hw279_0; first | rwa [add_block] at this | exact this) GW286.out)) | (dsimp only; exact Nat.ne_of_lt (Nat.lt_of_lt_of_le (by have := World.block_lt_of_cell? _ _ hw279_0; first | rwa [add_block] at this | exact this) GW286.out))) _).trans (hHeld.2.2.2.2.2.2.2.2.2.2.2.2.2.2.1)))))))))), ((cell_far (p := ⟨gb286, _, none⟩) (by first | exact Nat.ne_of_lt (Nat.lt_of_lt_of_le (by have := World.block_lt_of_cell? _ _ hw279_1; first | rwa [add_block] at this | exact this) GW286.out) | (rw [add_block]; exact Nat.ne_of_lt (Nat.lt_of_lt_of_le (by have := World.block_lt_of_cell? _ _ hw279_1; first | rwa [add_block] at this | exact this) GW286.out)) | (show (Addr.add _ _).block ≠ _; rw [add_block]; exact Nat.ne_of_lt (Nat.lt_of_lt_of_le (by have := World.block_lt_of_cell? _ _ hw279_1; first | rwa [add_block] at this | exact this) GW286.out)) | (dsimp only; exact Nat.ne_of_lt (Nat.lt_of_lt_of_le (by have := World.block_lt_of_cell? _ _ hw279_1; first | rwa [add_block] at this | exact this) GW286.out))) _).trans (((cell_far (p := ⟨gb286, _, none⟩) (by first | exact Nat.ne_of_lt (Nat.lt_of_lt_of_le (by have := World.block_lt_of_cell? _ _ hw279_1; first | rwa [add_block] at this | exact this) GW286.out) | (rw [add_block]; exact Nat.ne_of_lt (Nat.lt_of_lt_of_le (by have := World.block_lt_of_cell? _ _ hw279_1; first | rwa [add_block] at this | exact this) GW286.out)) | (show (Addr.add _ _).block ≠ _; rw [add_block]; exact Nat.ne_of_lt (Nat.lt_of_lt_of_le (by have := World.block_lt_of_cell? _ _ hw279_1; first | rwa [add_block] at this | exact this) GW286.out)) | (dsimp only; exact Nat.ne_of_lt (Nat.lt_of_lt_of_le (by have := World.block_lt_of_cell? _ _ hw279_1; first | rwa [add_block] at this | exact this) GW286.out))) _).trans (((cell_far (p := ⟨gb286, _, none⟩) (by first | exact Nat.ne_of_lt (Nat.lt_of_lt_of_le (by have := World.block_lt_of_cell? _ _ hw279_1; first | rwa [add_block] at this | exact this) GW286.out) | (rw [add_block]; exact Nat.ne_of_lt (Nat.lt_of_lt_of_le (by have := World.block_lt_of_cell? _ _ hw279_1; first | rwa [add_block] at this | exact this) GW286.out)) | (show (Addr.add _ _).block ≠ _; rw [add_block]; exact Nat.ne_of_lt (Nat.lt_of_lt_of_le (by have := World.block_lt_of_cell? _ _ hw279_1; first | rwa [add_block] at this | exact this) GW286.out)) | (dsimp only; exact Nat.ne_of_lt (Nat.lt_of_lt_of_le (by have := World.block_lt_of_cell? _ _ hw279_1; first | rwa [add_block] at this | exact this) GW286.out))) _).trans (((cell_far (p := ⟨gb286, _, none⟩) (by first | exact Nat.ne_of_lt (Nat.lt_of_lt_of_le (by have := World.block_lt_of_cell? _ _ hw279_1; first | rwa [add_block] at this | exact this) GW286.out) | (rw [add_block]; exact Nat.ne_of_lt (Nat.lt_of_lt_of_le (by have := World.block_lt_of_cell? _ _ hw279_1; first | rwa [add_block] at this | exact this) GW286.out)) | (show (Addr.add _ _).block ≠ _; rw [add_block]; exact Nat.ne_of_lt (Nat.lt_of_lt_of_le (by have := World.block_lt_of_cell? _ _ hw279_1; first | rwa [add_block] at this | exact this) GW286.out)) | (dsimp only; exact Nat.ne_of_lt (Nat.lt_of_lt_of_le (by have := World.block_lt_of_cell? _ _ hw279_1; first | rwa [add_block] at this | exact this) GW286.out))) _).trans (((cell_far (p := ⟨gb286, _, none⟩) (by first | exact Nat.ne_of_lt (Nat.lt_of_lt_of_le (by have := World.block_lt_of_cell? _ _ hw279_1; first | rwa [add_block] at this | exact this) GW286.out) | (rw [add_block]; exact Nat.ne_of_lt (Nat.lt_of_lt_of_le (by have := World.block_lt_of_cell? _ _ hw279_1; first | rwa [add_block] at this | exact this) GW286.out)) | (show (Addr.add _ _).block ≠ _; rw [add_block]; exact Nat.ne_of_lt (Nat.lt_of_lt_of_le (by have := World.block_lt_of_cell? _ _ hw279_1; first | rwa [add_block] at this | exact this) GW286.out)) | (dsimp only; exact Nat.ne_of_lt (Nat.lt_of_lt_of_le (by have := World.block_lt_of_cell? _ _ hw279_1; first | rwa [add_block] at this | exact this) GW286.out))) _).trans (hHeld.2.2.2.2.2.2.2.2.2.2.2.2.2.2.2.1)))))))))), ((cell_far (p := ⟨gb286, _, none⟩) (by first | exact Nat.ne_of_lt (Nat.lt_of_lt_of_le (by have := World.block_lt_of_cell? _ _ hw279_2; first | rwa [add_block] at this | exact this) GW286.out) | (rw [add_block]; exact Nat.ne_of_lt (Nat.lt_of_lt_of_le (by have := World.block_lt_of_cell? _ _ hw279_2; first | rwa [add_block] at this | exact this) GW286.out)) | (show (Addr.add _ _).block ≠ _; rw [add_block]; exact Nat.ne_of_lt (Nat.lt_of_lt_of_le (by have := World.block_lt_of_cell? _ _ hw279_2; first | rwa [add_block] at this | exact this) GW286.out)) | (dsimp only; exact Nat.ne_of_lt (Nat.lt_of_lt_of_le (by have := World.block_lt_of_cell? _ _ hw279_2; first | rwa [add_block] at this | exact this) GW286.out))) _).trans (((cell_far (p := ⟨gb286, _, none⟩) (by first | exact Nat.ne_of_lt (Nat.lt_of_lt_of_le (by have := World.block_lt_of_cell? _ _ hw279_2; first | rwa [add_block] at this | exact this) GW286.out) | (rw [add_block]; exact Nat.ne_of_lt (Nat.lt_of_lt_of_le (by have := World.block_lt_of_cell? _ _ hw279_2; first | rwa [add_block] at this | exact this) GW286.out)) | (show (Addr.add _ _).block ≠ _; rw [add_block]; exact Nat.ne_of_lt (Nat.lt_of_lt_of_le (by have := World.block_lt_of_cell? _ _ hw279_2; first | rwa [add_block] at this | exact this) GW286.out)) | (dsimp only; exact Nat.ne_of_lt (Nat.lt_of_lt_of_le (by have := World.block_lt_of_cell? _ _ hw279_2; first | rwa [add_block] at this | exact this) GW286.out))) _).trans (((cell_far (p := ⟨gb286, _, none⟩) (by first | exact Nat.ne_of_lt (Nat.lt_of_lt_of_le (by have := World.block_lt_of_cell? _ _ hw279_2; first | rwa [add_block] at this | exact this) GW286.out) | (rw [add_block]; exact Nat.ne_of_lt (Nat.lt_of_lt_of_le (by have := World.block_lt_of_cell? _ _ hw279_2; first | rwa [add_block] at this | exact this) GW286.out)) | (show (Addr.add _ _).block ≠ _; rw [add_block]; exact Nat.ne_of_lt (Nat.lt_of_lt_of_le (by have := World.block_lt_of_cell? _ _ hw279_2; first | rwa [add_block] at this | exact this) GW286.out)) | (dsimp only; exact Nat.ne_of_lt (Nat.lt_of_lt_of_le (by have := World.block_lt_of_cell? _ _ hw279_2; first | rwa [add_block] at this | exact this) GW286.out))) _).trans (((cell_far (p := ⟨gb286, _, none⟩) (by first | exact Nat.ne_of_lt (Nat.lt_of_lt_of_le (by have := World.block_lt_of_cell? _ _ hw279_2; first | rwa [add_block] at this | exact this) GW286.out) | (rw [add_block]; exact Nat.ne_of_lt (Nat.lt_of_lt_of_le (by have := World.block_lt_of_cell? _ _ hw279_2; first | rwa [add_block] at this | exact this) GW286.out)) | (show (Addr.add _ _).block ≠ _; rw [add_block]; exact Nat.ne_of_lt (Nat.lt_of_lt_of_le (by have := World.block_lt_of_cell? _ _ hw279_2; first | rwa [add_block] at this | exact this) GW286.out)) | (dsimp only; exact Nat.ne_of_lt (Nat.lt_of_lt_of_le (by have := World.block_lt_of_cell? _ _ hw279_2; first | rwa [add_block] at this | exact this) GW286.out))) _).trans (((cell_far (p := ⟨gb286, _, none⟩) (by first | exact Nat.ne_of_lt (Nat.lt_of_lt_of_le (by have := World.block_lt_of_cell? _ _ hw279_2; first | rwa [add_block] at this | exact this) GW286.out) | (rw [add_block]; exact Nat.ne_of_lt (Nat.lt_of_lt_of_le (by have := World.block_lt_of_cell? _ _ hw279_2; first | rwa [add_block] at this | exact this) GW286.out)) | (show (Addr.add _ _).block ≠ _; rw [add_block]; exact Nat.ne_of_lt (Nat.lt_of_lt_of_le (by have := World.block_lt_of_cell? _ _ hw279_2; first | rwa [add_block] at this | exact this) GW286.out)) | (dsimp only; exact Nat.ne_of_lt (Nat.lt_of_lt_of_le (by have := World.block_lt_of_cell? _ _ hw279_2; first | rwa [add_block] at this | exact this) GW286.out))) _).trans (hHeld.2.2.2.2.2.2.2.2.2.2.2.2.2.2.2.2))))))))))⟩ (fun hHeld => ?_)
         clear hK K
         refine pA_ 23 12 ?_ (b_ 24 16777215) (any_of HT_.out (by kernel_rfl)) rfl rfl (fun _ _ _ h => h) (by rfl) ?_ ?_ ?_ ?_
         rotate_left
         ·
          intro w'
          go_simp
          with_reducible rfl
         rotate_left
         ·
          simp only [Act.put, sa_, s0_, s1_, i64_w, i32_w]
          rfl
         refine done_ (done_of HT_.out (by kernel_rfl)) ?_
         have p287 : 0 ≤ (x10_2 : Int) := of_decide_eq_true (by first | (with_reducible assumption) | assumption)
         have q287 : x10_2 < (l2.length : Int) := of_decide_eq_true (by first | (with_reducible assumption) | assumption)
         obtain ⟨ad287, e287, hx287_0, hx287_1, hx287_2⟩ := at_T37 HR2.out x10_2 p287 q287
         obtain rfl : ad277 = ad287 := (by injection e287)
         have hn287_0 : ad277.block ≠ gb286 := Nat.ne_of_lt (Nat.lt_of_lt_of_le (by have := World.block_lt_of_cell? _ _ hx287_0; first | rwa [add_block] at this | exact this) GW286.out)
         have hn287_1 : ad277.block ≠ gb286 := Nat.ne_of_lt (Nat.lt_of_lt_of_le (by have := World.block_lt_of_cell? _ _ hx287_0; first | rwa [add_block] at this | exact this) GW286.out)
         have hn287_2 : ad277.block ≠ gb286 := Nat.ne_of_lt (Nat.lt_of_lt_of_le (by have := World.block_lt_of_cell? _ _ hx287_0; first | rwa [add_block] at this | exact this) GW286.out)
         have hn287_3 : ad277.block ≠ gb286 := Nat.ne_of_lt (Nat.lt_of_lt_of_le (by have := World.block_lt_of_cell? _ _ hx287_0; first | rwa [add_block] at this | exact this) GW286.out)
         have hn287_4 : ad277.block ≠ gb286 := Nat.ne_of_lt (Nat.lt_of_lt_of_le (by have := World.block_lt_of_cell? _ _ hx287_0; first | rwa [add_block] at this | exact this) GW286.out)
         replace hx287_0 := cl_ HB.out hx287_0
         replace hx287_1 := cl_ HB.out hx287_1
         replace hx287_2 := cl_ HB.out hx287_2
         replace hx287_0 := (cell_far (p := ⟨gb286, 0, none⟩) (by first | (rw [add_block]; exact hn287_0) | (show (Addr.add _ _).block ≠ _; rw [add_block]; exact hn287_0) | exact hn287_0) (.int .u8 t280)).trans hx287_0
         replace hx287_1 := (cell_far (p := ⟨gb286, 0, none⟩) (by first | (rw [add_block]; exact hn287_0) | (show (Addr.add _ _).block ≠ _; rw [add_block]; exact hn287_0) | exact hn287_0) (.int .u8 t280)).trans hx287_1
         replace hx287_2 := (cell_far (p := ⟨gb286, 0, none⟩) (by first | (rw [add_block]; exact hn287_0) | (show (Addr.add _ _).block ≠ _; rw [add_block]; exact hn287_0) | exact hn287_0) (.int .u8 t280)).trans hx287_2
         replace hx287_0 := (cell_far (p := ⟨gb286, 1, none⟩) (by first | (rw [add_block]; exact hn287_1) | (show (Addr.add _ _).block ≠ _; rw [add_block]; exact hn287_1) | exact hn287_1) (.int .i64 t281)).trans hx287_0
         replace hx287_1 := (cell_far (p := ⟨gb286, 1, none⟩) (by first | (rw [add_block]; exact hn287_1) | (show (Addr.add _ _).block ≠ _; rw [add_block]; exact hn287_1) | exact hn287_1) (.int .i64 t281)).trans hx287_1
         replace hx287_2 := (cell_far (p := ⟨gb286, 1, none⟩) (by first | (rw [add_block]; exact hn287_1) | (show (Addr.add _ _).block ≠ _; rw [add_block]; exact hn287_1) | exact hn287_1) (.int .i64 t281)).trans hx287_2
         replace hx287_0 := (cell_far (p := ⟨gb286, 2, none⟩) (by first | (rw [add_block]; exact hn287_2) | (show (Addr.add _ _).block ≠ _; rw [add_block]; exact hn287_2) | exact hn287_2) (.int .i64 t282)).trans hx287_0
         replace hx287_1 := (cell_far (p := ⟨gb286, 2, none⟩) (by first | (rw [add_block]; exact hn287_2) | (show (Addr.add _ _).block ≠ _; rw [add_block]; exact hn287_2) | exact hn287_2) (.int .i64 t282)).trans hx287_1
         replace hx287_2 := (cell_far (p := ⟨gb286, 2, none⟩) (by first | (rw [add_block]; exact hn287_2) | (show (Addr.add _ _).block ≠ _; rw [add_block]; exact hn287_2) | exact hn287_2) (.int .i64 t282)).trans hx287_2
         replace hx287_0 := (cell_far (p := ⟨gb286, 3, none⟩) (by first | (rw [add_block]; exact hn287_3) | (show (Addr.add _ _).block ≠ _; rw [add_block]; exact hn287_3) | exact hn287_3) (.int .i64 t283)).trans hx287_0
         replace hx287_1 := (cell_far (p := ⟨gb286, 3, none⟩) (by first | (rw [add_block]; exact hn287_3) | (show (Addr.add _ _).block ≠ _; rw [add_block]; exact hn287_3) | exact hn287_3) (.int .i64 t283)).trans hx287_1
         replace hx287_2 := (cell_far (p := ⟨gb286, 3, none⟩) (by first | (rw [add_block]; exact hn287_3) | (show (Addr.add _ _).block ≠ _; rw [add_block]; exact hn287_3) | exact hn287_3) (.int .i64 t283)).trans hx287_2
         replace hx287_0 := (cell_far (p := ⟨gb286, 4, none⟩) (by first | (rw [add_block]; exact hn287_4) | (show (Addr.add _ _).block ≠ _; rw [add_block]; exact hn287_4) | exact hn287_4) (.int .i64 t284)).trans hx287_0
         replace hx287_1 := (cell_far (p := ⟨gb286, 4, none⟩) (by first | (rw [add_block]; exact hn287_4) | (show (Addr.add _ _).block ≠ _; rw [add_block]; exact hn287_4) | exact hn287_4) (.int .i64 t284)).trans hx287_1
         replace hx287_2 := (cell_far (p := ⟨gb286, 4, none⟩) (by first | (rw [add_block]; exact hn287_4) | (show (Addr.add _ _).block ≠ _; rw [add_block]; exact hn287_4) | exact hn287_4) (.int .i64 t284)).trans hx287_2
         clear hn287_0
         clear hn287_1
         clear hn287_2
         clear hn287_3
         clear hn287_4
         replace p287 := eq_true p287
         replace q287 := eq_true q287
         go_upto_region 12 with (fail)
         go_cut [98] (fun v98 wc => ∃ (kq : Nat) (x98_31 : Bool), v98 = .bool x98_31 ∧ Aside0 (millhandlaw24_TaskRuns.j2 kq l2 x8_2 a1_1 x10_2 (Int.tmod ((rd_T37 l2 x10_2).f0) 8) x98_31 l0_0 a0_1 a0_2 x275000_2 x275001_2 x275002_2 x275003_2 x275004_2 t280 t281 t282 t283 t284 = some r) ∧ Aside0 (kq ≤ k2) ∧ Aside0 (wc.heap[gb273]? = some (.cells #[(.slice A0_0 l0_0.length c0_0), .int .i64 a0_1, .int .i64 a0_2] 24 (0, 0))) ∧ Aside0 (wc.heap[gb274]? = some (.cells #[.int .u8 x275000_2, .int .i64 x275001_2, .int .i64 x275002_2, .int .i64 x275003_2, .int .i64 x275004_2] 31 (0, 0))) ∧ Aside0 (wc.heap[gb286]? = some (.cells #[.int .u8 t280, .int .i64 t281, .int .i64 t282, .int .i64 t283, .int .i64 t284] 31 (0, 0))) ∧ Aside0 (Below w.heap.size w wc))
         case first =>
          have H := HC32.out
          clear HC32
          replace H := Option.bind_eq_some_iff.mp H
          obtain ⟨t288, A420, H⟩ := H
          replace H : (if t288 = 0 then (if x275000_2 ≥ 4 then (millhandlaw24_TaskRuns.j2 k2 l2 x8_2 a1_1 x10_2 (Int.tmod ((rd_T37 l2 x10_2).f0) 8) true l0_0 a0_1 a0_2 x275000_2 x275001_2 x275002_2 x275003_2 x275004_2 t280 t281 t282 t283 t284) else (if (Int.tmod ((rd_T37 l2 x10_2).f0) 8) ≥ 2 then (if (Int.tmod ((rd_T37 l2 x10_2).f0) 8) ≤ 4 then (millhandlaw24_TaskRuns.j2 k2 l2 x8_2 a1_1 x10_2 (Int.tmod ((rd_T37 l2 x10_2).f0) 8) (x275003_2 != ((rd_T37 l2 x10_2).f1)) l0_0 a0_1 a0_2 x275000_2 x275001_2 x275002_2 x275003_2 x275004_2 t280 t281 t282 t283 t284) else (millhandlaw24_TaskRuns.j2 k2 l2 x8_2 a1_1 x10_2 (Int.tmod ((rd_T37 l2 x10_2).f0) 8) false l0_0 a0_1 a0_2 x275000_2 x275001_2 x275002_2 x275003_2 x275004_2 t280 t281 t282 t283 t284)) else (millhandlaw24_TaskRuns.j2 k2 l2 x8_2 a1_1 x10_2 (Int.tmod ((rd_T37 l2 x10_2).f0) 8) false l0_0 a0_1 a0_2 x275000_2 x275001_2 x275002_2 x275003_2 x275004_2 t280 t281 t282 t283 t284))) else (millhandlaw24_TaskRuns.j2 k2 l2 x8_2 a1_1 x10_2 (Int.tmod ((rd_T37 l2 x10_2).f0) 8) true l0_0 a0_1 a0_2 x275000_2 x275001_2 x275002_2 x275003_2 x275004_2 t280 t281 t282 t283 t284)) = some r := H
          have A42 := Aside0.mk A420
          clear A420
          by_cases c43 : t288 = 0
          ·
           rw [if_pos c43] at H
           have c43b0 : (t288 == 0) = true := beq_iff_eq.mpr c43
           have c43b1 : (t288 != 0) = false := bne_eq_false_iff_eq.mpr c43
           clear c43
           (first | rw [c43b0] | (simp only [i64_w, i32_w]; rw [c43b0]) | skip)
           by_cases c44 : x275000_2 ≥ 4
           ·
            rw [if_pos c44] at H
            have c44b0 : decide (4 ≤ x275000_2) = true := decide_eq_true c44
            clear c44
            exact absurd (hr.symm.trans (TaskRuns_j2 H)) (by decide)
           ·
            rw [if_neg c44] at H
            have c44b0 : decide (4 ≤ x275000_2) = false := decide_eq_false c44
            clear c44
            by_cases c48 : (Int.tmod ((rd_T37 l2 x10_2).f0) 8) ≥ 2
            ·
             rw [if_pos c48] at H
             have c48b0 : decide (2 ≤ (Int.tmod ((rd_T37 l2 x10_2).f0) 8)) = true := decide_eq_true c48
             clear c48
             by_cases c49 : (Int.tmod ((rd_T37 l2 x10_2).f0) 8) ≤ 4
             ·
              rw [if_pos c49] at H
              have c49b0 : decide ((Int.tmod ((rd_T37 l2 x10_2).f0) 8) ≤ 4) = true := decide_eq_true c49
              clear c49
              have H' := Aside0.mk H
              clear H
              try go_wp2
              have n0_ : Aside0 ((((((w36.setCell ⟨gb286, 0, none⟩ (.int .u8 t280)).setCell ⟨gb286, 1, none⟩ (.int .i64 t281)).setCell ⟨gb286, 2, none⟩ (.int .i64 t282)).setCell ⟨gb286, 3, none⟩ (.int .i64 t283)).setCell ⟨gb286, 4, none⟩ (.int .i64 t284)).heap[gb273]? = some (.cells #[.slice A0_0 l0_0.length c0_0, .int .i64 a0_1, .int .i64 a0_2] 24 (0, 0))) := ⟨by (with_reducible repeat (first | refine blk_drewN ?_ _ | refine blk_drew ?_ | refine blk_alloc ?_ _)); refine blk_far ?_ NB273_286.out _; (with_reducible repeat (first | refine blk_drewN ?_ _ | refine blk_drew ?_ | refine blk_alloc ?_ _)); refine blk_far ?_ NB273_286.out _; (with_reducible repeat (first | refine blk_drewN ?_ _ | refine blk_drew ?_ | refine blk_alloc ?_ _)); refine blk_far ?_ NB273_286.out _; (with_reducible repeat (first | refine blk_drewN ?_ _ | refine blk_drew ?_ | refine blk_alloc ?_ _)); refine blk_far ?_ NB273_286.out _; (with_reducible repeat (first | refine blk_drewN ?_ _ | refine blk_drew ?_ | refine blk_alloc ?_ _)); refine blk_far ?_ NB273_286.out _; (with_reducible repeat (first | refine blk_drewN ?_ _ | refine blk_drew ?_ | refine blk_alloc ?_ _)); exact BK273.out⟩
              have n1_ : Aside0 ((((((w36.setCell ⟨gb286, 0, none⟩ (.int .u8 t280)).setCell ⟨gb286, 1, none⟩ (.int .i64 t281)).setCell ⟨gb286, 2, none⟩ (.int .i64 t282)).setCell ⟨gb286, 3, none⟩ (.int .i64 t283)).setCell ⟨gb286, 4, none⟩ (.int .i64 t284)).heap[gb274]? = some (.cells #[.int .u8 x275000_2, .int .i64 x275001_2, .int .i64 x275002_2, .int .i64 x275003_2, .int .i64 x275004_2] 31 (0, 0))) := ⟨by (with_reducible repeat (first | refine blk_drewN ?_ _ | refine blk_drew ?_ | refine blk_alloc ?_ _)); refine blk_far ?_ NB274_286.out _; (with_reducible repeat (first | refine blk_drewN ?_ _ | refine blk_drew ?_ | refine blk_alloc ?_ _)); refine blk_far ?_ NB274_286.out _; (with_reducible repeat (first | refine blk_drewN ?_ _ | refine blk_drew ?_ | refine blk_alloc ?_ _)); refine blk_far ?_ NB274_286.out _; (with_reducible repeat (first | refine blk_drewN ?_ _ | refine blk_drew ?_ | refine blk_alloc ?_ _)); refine blk_far ?_ NB274_286.out _; (with_reducible repeat (first | refine blk_drewN ?_ _ | refine blk_drew ?_ | refine blk_alloc ?_ _)); refine blk_far ?_ NB274_286.out _; (with_reducible repeat (first | refine blk_drewN ?_ _ | refine blk_drew ?_ | refine blk_alloc ?_ _)); exact BK274.out⟩
              have n2_ : Aside0 ((((((w36.setCell ⟨gb286, 0, none⟩ (.int .u8 t280)).setCell ⟨gb286, 1, none⟩ (.int .i64 t281)).setCell ⟨gb286, 2, none⟩ (.int .i64 t282)).setCell ⟨gb286, 3, none⟩ (.int .i64 t283)).setCell ⟨gb286, 4, none⟩ (.int .i64 t284)).heap[gb286]? = some (.cells #[.int .u8 t280, .int .i64 t281, .int .i64 t282, .int .i64 t283, .int .i64 t284] 31 (0, 0))) := ⟨by (with_reducible repeat (first | refine blk_drewN ?_ _ | refine blk_drew ?_ | refine blk_alloc ?_ _)); refine blk_put (cs := #[.int .u8 t280, .int .i64 t281, .int .i64 t282, .int .i64 t283, .int .i64 0]) ?_ 4 _ rfl; (with_reducible repeat (first | refine blk_drewN ?_ _ | refine blk_drew ?_ | refine blk_alloc ?_ _)); refine blk_put (cs := #[.int .u8 t280, .int .i64 t281, .int .i64 t282, .int .i64 0, .int .i64 0]) ?_ 3 _ rfl; (with_reducible repeat (first | refine blk_drewN ?_ _ | refine blk_drew ?_ | refine blk_alloc ?_ _)); refine blk_put (cs := #[.int .u8 t280, .int .i64 t281, .int .i64 0, .int .i64 0, .int .i64 0]) ?_ 2 _ rfl; (with_reducible repeat (first | refine blk_drewN ?_ _ | refine blk_drew ?_ | refine blk_alloc ?_ _)); refine blk_put (cs := #[.int .u8 t280, .int .i64 0, .int .i64 0, .int .i64 0, .int .i64 0]) ?_ 1 _ rfl; (with_reducible repeat (first | refine blk_drewN ?_ _ | refine blk_drew ?_ | refine blk_alloc ?_ _)); refine blk_put (cs := #[.int .u8 0, .int .i64 0, .int .i64 0, .int .i64 0, .int .i64 0]) ?_ 0 _ rfl; (with_reducible repeat (first | refine blk_drewN ?_ _ | refine blk_drew ?_ | refine blk_alloc ?_ _)); exact BK286.out⟩
              have n3_ : Aside0 (Below w.heap.size w (((((w36.setCell ⟨gb286, 0, none⟩ (.int .u8 t280)).setCell ⟨gb286, 1, none⟩ (.int .i64 t281)).setCell ⟨gb286, 2, none⟩ (.int .i64 t282)).setCell ⟨gb286, 3, none⟩ (.int .i64 t283)).setCell ⟨gb286, 4, none⟩ (.int .i64 t284))) := ⟨by repeat (first | (with_reducible first | exact HB.out | apply below_alloc | apply pw_below_drewN | apply below_drew1 | refine below_set ?_ GE273.out | refine below_set ?_ GE274.out | refine below_set ?_ GE286.out) | exact HB.out)⟩
              (try clear BK273)
              (try clear BK274)
              (try clear BK286)
              (try clear HB)
              generalize (((((w36.setCell ⟨gb286, 0, none⟩ (.int .u8 t280)).setCell ⟨gb286, 1, none⟩ (.int .i64 t281)).setCell ⟨gb286, 2, none⟩ (.int .i64 t282)).setCell ⟨gb286, 3, none⟩ (.int .i64 t283)).setCell ⟨gb286, 4, none⟩ (.int .i64 t284)) = w50 at n0_ n1_ n2_ n3_ ⊢
              have BK273 := n0_
              have BK274 := n1_
              have BK286 := n2_
              have HB := n3_
              clear n0_ n1_ n2_ n3_
              obtain ⟨BK273, BK274, BK286, HB⟩ := And.intro (Aside0.mk (blk_drew BK273.out)) (And.intro (Aside0.mk (blk_drew BK274.out)) (And.intro (Aside0.mk (blk_drew BK286.out)) (Aside0.mk (below_drew1 HB.out))))
              have p289 : 0 ≤ (x10_2 : Int) := of_decide_eq_true (by first | (with_reducible assumption) | assumption)
              have q289 : x10_2 < (l2.length : Int) := of_decide_eq_true (by first | (with_reducible assumption) | assumption)
              obtain ⟨ad289, e289, hx289_0, hx289_1, hx289_2⟩ := at_T37 HR2.out x10_2 p289 q289
              have hw289_2 := hx289_2
              have hw289_1 := hx289_1
              have hw289_0 := hx289_0
              obtain rfl : ad277 = ad289 := (by injection e289)
              replace hx289_0 := cl_ HB.out hx289_0
              replace hx289_1 := cl_ HB.out hx289_1
              replace hx289_2 := cl_ HB.out hx289_2
              replace p289 := eq_true p289
              replace q289 := eq_true q289
              refine start_ (n := 27) (S := fun w' => w'.cell? ⟨gb273, 0, none⟩ = some (.slice A0_0 l0_0.length c0_0) ∧ w'.cell? ⟨gb273, 1, none⟩ = some (.int .i64 a0_1) ∧ w'.cell? ⟨gb273, 2, none⟩ = some (.int .i64 a0_2) ∧ w'.cell? ⟨gb286, 0, none⟩ = some (.int .u8 t280) ∧ w'.cell? ⟨gb286, 1, none⟩ = some (.int .i64 t281) ∧ w'.cell? ⟨gb286, 2, none⟩ = some (.int .i64 t282) ∧ w'.cell? ⟨gb286, 3, none⟩ = some (.int .i64 t283) ∧ w'.cell? ⟨gb286, 4, none⟩ = some (.int .i64 t284) ∧ w'.cell? ⟨gb274, 0, none⟩ = some (.int .u8 x275000_2) ∧ w'.cell? ⟨gb274, 1, none⟩ = some (.int .i64 x275001_2) ∧ w'.cell? ⟨gb274, 2, none⟩ = some (.int .i64 x275002_2) ∧ w'.cell? ⟨gb274, 3, none⟩ = some (.int .i64 x275003_2) ∧ w'.cell? ⟨gb274, 4, none⟩ = some (.int .i64 x275004_2) ∧ w'.cell? (ad277.add ((x10_2).toNat * 3)) = some (.int .u8 ((rd_T37 l2 x10_2).f0)) ∧ w'.cell? ⟨(ad277.add ((x10_2).toNat * 3)).block, (ad277.add ((x10_2).toNat * 3)).off + 1, none⟩ = some (.int .i64 ((rd_T37 l2 x10_2).f1)) ∧ w'.cell? ⟨(ad277.add ((x10_2).toNat * 3)).block, (ad277.add ((x10_2).toNat * 3)).off + 2, none⟩ = some (.int .i64 ((rd_T37 l2 x10_2).f2))) (ds := []) (b_ 27 0) (by kernel_rfl) rfl rfl ⟨(blk_cell BK273.out 0).trans rfl, (blk_cell BK273.out 1).trans rfl, (blk_cell BK273.out 2).trans rfl, (blk_cell BK286.out 0).trans rfl, (blk_cell BK286.out 1).trans rfl, (blk_cell BK286.out 2).trans rfl, (blk_cell BK286.out 3).trans rfl, (blk_cell BK286.out 4).trans rfl, (blk_cell BK274.out 0).trans rfl, (blk_cell BK274.out 1).trans rfl, (blk_cell BK274.out 2).trans rfl, (blk_cell BK274.out 3).trans rfl, (blk_cell BK274.out 4).trans rfl, (cl_ HB.out hw289_0), (cl_ HB.out hw289_1), (cl_ HB.out hw289_2)⟩ (fun hHeld => ?_); refine with_tabW millhandlaw24_TaskRuns.tab12 millhandlaw24_TaskRuns.bits12 (fun HT_ HW_ => ?_)
              generalize w50.drew = w51 at BK273 BK274 BK286 HB hx289_0 hx289_1 hx289_2 hHeld ⊢
              refine tA_ 0 72 ?_ (b_ 27 1) (take_ofW HT_.out HW_.out (by kernel_rfl)) rfl rfl (fun _ _ _ h => h) (by rfl) ?_ hHeld ?_ ?_ ?_
              rotate_left
              ·
               rintro w' ⟨s0, s1, s2, s3, s4, s5, s6, s7, s8, s9, s10, s11, s12, s13, s14, s15⟩
               go_simp
               with_reducible rfl
              rotate_left
              ·
               simp only [Act.put, sa_, s0_, s1_, i64_w, i32_w]
               rfl
              refine tA_ 1 73 ?_ (b_ 27 3) (take_ofW HT_.out HW_.out (by kernel_rfl)) rfl rfl (fun _ _ _ h => h) (by rfl) ?_ hHeld ?_ ?_ ?_
              rotate_left
              ·
               rintro w' ⟨s0, s1, s2, s3, s4, s5, s6, s7, s8, s9, s10, s11, s12, s13, s14, s15⟩
               go_simp
               with_reducible rfl
              rotate_left
              ·
               simp only [Act.put, sa_, s0_, s1_, i64_w, i32_w]
               rfl
              refine one_ (i := 2) (N := some 74) (b_ 27 7) rfl rfl (one_of HT_.out (by kernel_rfl)) (by decide) (fun K hK => ?_)
              refine goes_ Try.func9 (by kernel_rfl) rfl #[.agg #[.slice A0_0 l0_0.length c0_0, .int .i64 a0_1, .int .i64 a0_2], .agg #[.int .u8 t280, .int .i64 t281, .int .i64 t282, .int .i64 t283, .int .i64 t284]] (by rfl) rfl rfl (by (try simp only [List.map_toArray, List.map_cons, List.map_nil]); first | done | rfl | (simp only [List.length_drop, List.length_take]; rfl)) ?_
              with_reducible refine (task_Check.calls k2 _ _ l0_0 a0_1 a0_2 t280 t281 t282 t283 t284 t288 _ ?side1 ?side2 A42.out).mono ?_
              (case side1 => repeat (first | exact (Kd.C_below HR0_0.out HB.out) | (with_reducible refine Kd.C_alloc ?_ _) | (with_reducible refine Kd.C_drewN ?_ _) | (with_reducible refine Kd.C_drew ?_)))
              (case side2 => exact HC0_0.out)
              rintro e w52 ⟨rfl, hb⟩
              refine ⟨_, rfl, ?_⟩
              obtain ⟨BK273, BK274, BK286, HB⟩ := And.intro (Aside0.mk (blk_below (g := gb273) (o := .cells #[.slice A0_0 l0_0.length c0_0, .int .i64 a0_1, .int .i64 a0_2] 24 (0, 0)) (by (with_reducible repeat (first | refine blk_drewN ?_ _ | refine blk_drew ?_ | refine blk_alloc ?_ _)); exact BK273.out) hb)) (And.intro (Aside0.mk (blk_below (g := gb274) (o := .cells #[.int .u8 x275000_2, .int .i64 x275001_2, .int .i64 x275002_2, .int .i64 x275003_2, .int .i64 x275004_2] 31 (0, 0)) (by (with_reducible repeat (first | refine blk_drewN ?_ _ | refine blk_drew ?_ | refine blk_alloc ?_ _)); exact BK274.out) hb)) (And.intro (Aside0.mk (blk_below (g := gb286) (o := .cells #[.int .u8 t280, .int .i64 t281, .int .i64 t282, .int .i64 t283, .int .i64 t284] 31 (0, 0)) (by (with_reducible repeat (first | refine blk_drewN ?_ _ | refine blk_drew ?_ | refine blk_alloc ?_ _)); exact BK286.out) hb)) (Aside0.mk (below_step (by repeat (first | (with_reducible first | exact HB.out | apply below_alloc | apply pw_below_drewN | apply below_drew1 | refine below_set ?_ GE273.out | refine below_set ?_ GE274.out | refine below_set ?_ GE286.out) | exact HB.out)) hb))))
              (try clear hb)
              (try clear hb2)
              (try clear hk)
              (try clear hi)
              refine hK.out _ _ ⟨(blk_cell BK273.out 0).trans rfl, (blk_cell BK273.out 1).trans rfl, (blk_cell BK273.out 2).trans rfl, (blk_cell BK286.out 0).trans rfl, (blk_cell BK286.out 1).trans rfl, (blk_cell BK286.out 2).trans rfl, (blk_cell BK286.out 3).trans rfl, (blk_cell BK286.out 4).trans rfl, (blk_cell BK274.out 0).trans rfl, (blk_cell BK274.out 1).trans rfl, (blk_cell BK274.out 2).trans rfl, (blk_cell BK274.out 3).trans rfl, (blk_cell BK274.out 4).trans rfl, (cl_ HB.out hw289_0), (cl_ HB.out hw289_1), (cl_ HB.out hw289_2)⟩ (fun hHeld => ?_)
              clear hK K
              refine norm_ (a' := ?_) ?_ ?_
              rotate_left
              ·
               show Act.put _ (some 74) _ = _
               simp only [Act.put, sa_, s0_, s1_, i64_w, i32_w]
               rfl
              refine pA_ 3 75 ?_ (b_ 27 15) (any_of HT_.out (by kernel_rfl)) rfl rfl (fun _ _ _ h => h) (by rfl) ?_ ?_ ?_ ?_
              rotate_left
              ·
               intro w'
               go_simp
               with_reducible rfl
              rotate_left
              ·
               simp only [Act.put, sa_, s0_, s1_, i64_w, i32_w]
               rfl
              refine pA_ 4 76 ?_ (b_ 27 31) (any_of HT_.out (by kernel_rfl)) rfl rfl (fun _ _ _ h => h) (by rfl) ?_ ?_ ?_ ?_
              rotate_left
              ·
               intro w'
               go_simp
               with_reducible rfl
              rotate_left
              ·
               simp only [Act.put, sa_, s0_, s1_, i64_w, i32_w]
               rfl
              refine pA_ 5 77 ?_ (b_ 27 63) (any_of HT_.out (by kernel_rfl)) rfl rfl (fun _ _ _ h => h) (by rfl) ?_ ?_ ?_ ?_
              rotate_left
              ·
               intro w'
               go_simp
               with_reducible rfl
              rotate_left
              ·
               simp only [Act.put, sa_, s0_, s1_, i64_w, i32_w]
               rfl
              refine tA_ 6 78 ?_ (b_ 27 127) (take_ofW HT_.out HW_.out (by kernel_rfl)) rfl rfl (fun _ _ _ h => h) (by rfl) ?_ hHeld ?_ ?_ ?_
              rotate_left
              ·
               rintro w' ⟨s0, s1, s2, s3, s4, s5, s6, s7, s8, s9, s10, s11, s12, s13, s14, s15⟩
               go_simp
               with_reducible rfl
              rotate_left
              ·
               simp only [Act.put, sa_, s0_, s1_, i64_w, i32_w]
               rfl
              refine pA_ 7 79 ?_ (b_ 27 255) (any_of HT_.out (by kernel_rfl)) rfl rfl (fun _ _ _ h => h) (by rfl) ?_ ?_ ?_ ?_
              rotate_left
              ·
               intro w'
               go_simp
               with_reducible rfl
              rotate_left
              ·
               simp only [Act.put, sa_, s0_, s1_, i64_w, i32_w]
               rfl
              refine pA_ 8 80 ?_ (b_ 27 511) (any_of HT_.out (by kernel_rfl)) rfl rfl (fun _ _ _ h => h) (by rfl) ?_ ?_ ?_ ?_
              rotate_left
              ·
               intro w'
               go_simp
               with_reducible rfl
              rotate_left
              ·
               simp only [Act.put, sa_, s0_, s1_, i64_w, i32_w]
               rfl
              refine pA_ 9 81 ?_ (b_ 27 1023) (any_of HT_.out (by kernel_rfl)) rfl rfl (fun _ _ _ h => h) (by rfl) ?_ ?_ ?_ ?_
              rotate_left
              ·
               intro w'
               go_simp
               with_reducible rfl
              rotate_left
              ·
               simp only [Act.put, sa_, s0_, s1_, i64_w, i32_w]
               rfl
              refine pA_ 10 82 ?_ (b_ 27 2047) (any_of HT_.out (by kernel_rfl)) rfl rfl (fun _ _ _ h => h) (by rfl) ?_ ?_ ?_ ?_
              rotate_left
              ·
               intro w'
               go_simp
               with_reducible rfl
              rotate_left
              ·
               simp only [Act.put, sa_, s0_, s1_, i64_w, i32_w]
               rfl
              refine pA_ 11 83 ?_ (b_ 27 4095) (any_of HT_.out (by kernel_rfl)) rfl rfl (fun _ _ _ h => h) (by rfl) ?_ ?_ ?_ ?_
              rotate_left
              ·
               intro w'
               go_simp
               with_reducible rfl
              rotate_left
              ·
               simp only [Act.put, sa_, s0_, s1_, i64_w, i32_w]
               rfl
              refine pA_ 12 84 ?_ (b_ 27 8191) (any_of HT_.out (by kernel_rfl)) rfl rfl (fun _ _ _ h => h) (by rfl) ?_ ?_ ?_ ?_
              rotate_left
              ·
               intro w'
               go_simp
               with_reducible rfl
              rotate_left
              ·
               simp only [Act.put, sa_, s0_, s1_, i64_w, i32_w]
               rfl
              refine pA_ 13 85 ?_ (b_ 27 16383) (any_of HT_.out (by kernel_rfl)) rfl rfl (fun _ _ _ h => h) (by rfl) ?_ ?_ ?_ ?_
              rotate_left
              ·
               intro w'
               go_simp
               with_reducible rfl
              rotate_left
              ·
               simp only [Act.put, sa_, s0_, s1_, i64_w, i32_w]
               rfl
              refine pA_ 14 86 ?_ (b_ 27 32767) (any_of HT_.out (by kernel_rfl)) rfl rfl (fun _ _ _ h => h) (by rfl) ?_ ?_ ?_ ?_
              rotate_left
              ·
               intro w'
               go_simp
               with_reducible rfl
              rotate_left
              ·
               simp only [Act.put, sa_, s0_, s1_, i64_w, i32_w]
               rfl
              refine pA_ 15 87 ?_ (b_ 27 65535) (any_of HT_.out (by kernel_rfl)) rfl rfl (fun _ _ _ h => h) (by rfl) ?_ ?_ ?_ ?_
              rotate_left
              ·
               intro w'
               go_simp
               with_reducible rfl
              rotate_left
              ·
               simp only [Act.put, sa_, s0_, s1_, i64_w, i32_w]
               rfl
              refine pA_ 16 88 ?_ (b_ 27 131071) (any_of HT_.out (by kernel_rfl)) rfl rfl (fun _ _ _ h => h) (by rfl) ?_ ?_ ?_ ?_
              rotate_left
              ·
               intro w'
               go_simp
               with_reducible rfl
              rotate_left
              ·
               simp only [Act.put, sa_, s0_, s1_, i64_w, i32_w]
               rfl
              refine pA_ 17 89 ?_ (b_ 27 262143) (any_of HT_.out (by kernel_rfl)) rfl rfl (fun _ _ _ h => h) (by rfl) ?_ ?_ ?_ ?_
              rotate_left
              ·
               intro w'
               go_simp
               with_reducible rfl
              rotate_left
              ·
               simp only [Act.put, sa_, s0_, s1_, i64_w, i32_w]
               rfl
              refine pA_ 19 91 ?_ (b_ 27 786431) (any_of HT_.out (by kernel_rfl)) rfl rfl (fun _ _ _ h => h) (by rfl) ?_ ?_ ?_ ?_
              rotate_left
              ·
               intro w'
               go_simp
               with_reducible rfl
              rotate_left
              ·
               simp only [Act.put, sa_, s0_, s1_, i64_w, i32_w]
               rfl
              refine pA_ 20 92 ?_ (b_ 27 1835007) (any_of HT_.out (by kernel_rfl)) rfl rfl (fun _ _ _ h => h) (by rfl) ?_ ?_ ?_ ?_
              rotate_left
              ·
               intro w'
               go_simp
               with_reducible rfl
              rotate_left
              ·
               simp only [Act.put, sa_, s0_, s1_, i64_w, i32_w]
               rfl
              refine pA_ 21 93 ?_ (b_ 27 3932159) (any_of HT_.out (by kernel_rfl)) rfl rfl (fun _ _ _ h => h) (by rfl) ?_ ?_ ?_ ?_
              rotate_left
              ·
               intro w'
               go_simp
               with_reducible rfl
              rotate_left
              ·
               simp only [Act.put, sa_, s0_, s1_, i64_w, i32_w]
               rfl
              refine pA_ 22 94 ?_ (b_ 27 8126463) (any_of HT_.out (by kernel_rfl)) rfl rfl (fun _ _ _ h => h) (by rfl) ?_ ?_ ?_ ?_
              rotate_left
              ·
               intro w'
               go_simp
               with_reducible rfl
              rotate_left
              ·
               simp only [Act.put, sa_, s0_, s1_, i64_w, i32_w]
               rfl
              refine tA_ 18 90 ?_ (b_ 27 8388607) (take_ofW HT_.out HW_.out (by kernel_rfl)) rfl rfl (fun _ _ _ h => h) (by rfl) ?_ hHeld ?_ ?_ ?_
              rotate_left
              ·
               rintro w' ⟨s0, s1, s2, s3, s4, s5, s6, s7, s8, s9, s10, s11, s12, s13, s14, s15⟩
               go_simp
               with_reducible rfl
              rotate_left
              ·
               simp only [Act.put, sa_, s0_, s1_, i64_w, i32_w]
               rfl
              refine tA_ 23 95 ?_ (b_ 27 16777215) (take_ofW HT_.out HW_.out (by kernel_rfl)) rfl rfl (fun _ _ _ h => h) (by rfl) ?_ hHeld ?_ ?_ ?_
              rotate_left
              ·
               rintro w' ⟨s0, s1, s2, s3, s4, s5, s6, s7, s8, s9, s10, s11, s12, s13, s14, s15⟩
               go_simp
               with_reducible rfl
              rotate_left
              ·
               simp only [Act.put, sa_, s0_, s1_, i64_w, i32_w]
               rfl
              refine pA_ 24 96 ?_ (b_ 27 33554431) (any_of HT_.out (by kernel_rfl)) rfl rfl (fun _ _ _ h => h) (by rfl) ?_ ?_ ?_ ?_
              rotate_left
              ·
               intro w'
               go_simp
               with_reducible rfl
              rotate_left
              ·
               simp only [Act.put, sa_, s0_, s1_, i64_w, i32_w]
               rfl
              refine pA_ 25 97 ?_ (b_ 27 67108863) (any_of HT_.out (by kernel_rfl)) rfl rfl (fun _ _ _ h => h) (by rfl) ?_ ?_ ?_ ?_
              rotate_left
              ·
               intro w'
               go_simp
               with_reducible rfl
              rotate_left
              ·
               simp only [Act.put, sa_, s0_, s1_, i64_w, i32_w]
               rfl
              refine pA_ 26 98 ?_ (b_ 27 134217727) (any_of HT_.out (by kernel_rfl)) rfl rfl (fun _ _ _ h => h) (by rfl) ?_ ?_ ?_ ?_
              rotate_left
              ·
               intro w'
               go_simp
               with_reducible rfl
              rotate_left
              ·
               simp only [Act.put, sa_, s0_, s1_, i64_w, i32_w]
               rfl
              refine done_ (done_of HT_.out (by kernel_rfl)) ?_
              try go_wp2
              go_meet
              case rel => exact ⟨_, ((x275003_2 != ((rd_T37 l2 x10_2).f1))), (by first | rfl | (simp; done) | (simp [*]; done)), H', ⟨by have := HJ4.out; have := HK2.out; first | omega | exact Nat.le_refl _⟩, ⟨by (with_reducible repeat (first | refine blk_drewN ?_ _ | refine blk_drew ?_ | refine blk_alloc ?_ _)); exact BK273.out⟩, ⟨by (with_reducible repeat (first | refine blk_drewN ?_ _ | refine blk_drew ?_ | refine blk_alloc ?_ _)); exact BK274.out⟩, ⟨by (with_reducible repeat (first | refine blk_drewN ?_ _ | refine blk_drew ?_ | refine blk_alloc ?_ _)); exact BK286.out⟩, ⟨by repeat (first | (with_reducible first | exact HB.out | apply below_alloc | apply pw_below_drewN | apply below_drew1 | refine below_set ?_ GE273.out | refine below_set ?_ GE274.out | refine below_set ?_ GE286.out) | exact HB.out)⟩⟩
             ·
              rw [if_neg c49] at H
              have c49b0 : decide ((Int.tmod ((rd_T37 l2 x10_2).f0) 8) ≤ 4) = false := decide_eq_false c49
              clear c49
              have H' := Aside0.mk H
              clear H
              try go_wp2
              have n0_ : Aside0 ((((((w36.setCell ⟨gb286, 0, none⟩ (.int .u8 t280)).setCell ⟨gb286, 1, none⟩ (.int .i64 t281)).setCell ⟨gb286, 2, none⟩ (.int .i64 t282)).setCell ⟨gb286, 3, none⟩ (.int .i64 t283)).setCell ⟨gb286, 4, none⟩ (.int .i64 t284)).heap[gb273]? = some (.cells #[.slice A0_0 l0_0.length c0_0, .int .i64 a0_1, .int .i64 a0_2] 24 (0, 0))) := ⟨by (with_reducible repeat (first | refine blk_drewN ?_ _ | refine blk_drew ?_ | refine blk_alloc ?_ _)); refine blk_far ?_ NB273_286.out _; (with_reducible repeat (first | refine blk_drewN ?_ _ | refine blk_drew ?_ | refine blk_alloc ?_ _)); refine blk_far ?_ NB273_286.out _; (with_reducible repeat (first | refine blk_drewN ?_ _ | refine blk_drew ?_ | refine blk_alloc ?_ _)); refine blk_far ?_ NB273_286.out _; (with_reducible repeat (first | refine blk_drewN ?_ _ | refine blk_drew ?_ | refine blk_alloc ?_ _)); refine blk_far ?_ NB273_286.out _; (with_reducible repeat (first | refine blk_drewN ?_ _ | refine blk_drew ?_ | refine blk_alloc ?_ _)); refine blk_far ?_ NB273_286.out _; (with_reducible repeat (first | refine blk_drewN ?_ _ | refine blk_drew ?_ | refine blk_alloc ?_ _)); exact BK273.out⟩
              have n1_ : Aside0 ((((((w36.setCell ⟨gb286, 0, none⟩ (.int .u8 t280)).setCell ⟨gb286, 1, none⟩ (.int .i64 t281)).setCell ⟨gb286, 2, none⟩ (.int .i64 t282)).setCell ⟨gb286, 3, none⟩ (.int .i64 t283)).setCell ⟨gb286, 4, none⟩ (.int .i64 t284)).heap[gb274]? = some (.cells #[.int .u8 x275000_2, .int .i64 x275001_2, .int .i64 x275002_2, .int .i64 x275003_2, .int .i64 x275004_2] 31 (0, 0))) := ⟨by (with_reducible repeat (first | refine blk_drewN ?_ _ | refine blk_drew ?_ | refine blk_alloc ?_ _)); refine blk_far ?_ NB274_286.out _; (with_reducible repeat (first | refine blk_drewN ?_ _ | refine blk_drew ?_ | refine blk_alloc ?_ _)); refine blk_far ?_ NB274_286.out _; (with_reducible repeat (first | refine blk_drewN ?_ _ | refine blk_drew ?_ | refine blk_alloc ?_ _)); refine blk_far ?_ NB274_286.out _; (with_reducible repeat (first | refine blk_drewN ?_ _ | refine blk_drew ?_ | refine blk_alloc ?_ _)); refine blk_far ?_ NB274_286.out _; (with_reducible repeat (first | refine blk_drewN ?_ _ | refine blk_drew ?_ | refine blk_alloc ?_ _)); refine blk_far ?_ NB274_286.out _; (with_reducible repeat (first | refine blk_drewN ?_ _ | refine blk_drew ?_ | refine blk_alloc ?_ _)); exact BK274.out⟩
              have n2_ : Aside0 ((((((w36.setCell ⟨gb286, 0, none⟩ (.int .u8 t280)).setCell ⟨gb286, 1, none⟩ (.int .i64 t281)).setCell ⟨gb286, 2, none⟩ (.int .i64 t282)).setCell ⟨gb286, 3, none⟩ (.int .i64 t283)).setCell ⟨gb286, 4, none⟩ (.int .i64 t284)).heap[gb286]? = some (.cells #[.int .u8 t280, .int .i64 t281, .int .i64 t282, .int .i64 t283, .int .i64 t284] 31 (0, 0))) := ⟨by (with_reducible repeat (first | refine blk_drewN ?_ _ | refine blk_drew ?_ | refine blk_alloc ?_ _)); refine blk_put (cs := #[.int .u8 t280, .int .i64 t281, .int .i64 t282, .int .i64 t283, .int .i64 0]) ?_ 4 _ rfl; (with_reducible repeat (first | refine blk_drewN ?_ _ | refine blk_drew ?_ | refine blk_alloc ?_ _)); refine blk_put (cs := #[.int .u8 t280, .int .i64 t281, .int .i64 t282, .int .i64 0, .int .i64 0]) ?_ 3 _ rfl; (with_reducible repeat (first | refine blk_drewN ?_ _ | refine blk_drew ?_ | refine blk_alloc ?_ _)); refine blk_put (cs := #[.int .u8 t280, .int .i64 t281, .int .i64 0, .int .i64 0, .int .i64 0]) ?_ 2 _ rfl; (with_reducible repeat (first | refine blk_drewN ?_ _ | refine blk_drew ?_ | refine blk_alloc ?_ _)); refine blk_put (cs := #[.int .u8 t280, .int .i64 0, .int .i64 0, .int .i64 0, .int .i64 0]) ?_ 1 _ rfl; (with_reducible repeat (first | refine blk_drewN ?_ _ | refine blk_drew ?_ | refine blk_alloc ?_ _)); refine blk_put (cs := #[.int .u8 0, .int .i64 0, .int .i64 0, .int .i64 0, .int .i64 0]) ?_ 0 _ rfl; (with_reducible repeat (first | refine blk_drewN ?_ _ | refine blk_drew ?_ | refine blk_alloc ?_ _)); exact BK286.out⟩
              have n3_ : Aside0 (Below w.heap.size w (((((w36.setCell ⟨gb286, 0, none⟩ (.int .u8 t280)).setCell ⟨gb286, 1, none⟩ (.int .i64 t281)).setCell ⟨gb286, 2, none⟩ (.int .i64 t282)).setCell ⟨gb286, 3, none⟩ (.int .i64 t283)).setCell ⟨gb286, 4, none⟩ (.int .i64 t284))) := ⟨by repeat (first | (with_reducible first | exact HB.out | apply below_alloc | apply pw_below_drewN | apply below_drew1 | refine below_set ?_ GE273.out | refine below_set ?_ GE274.out | refine below_set ?_ GE286.out) | exact HB.out)⟩
              (try clear BK273)
              (try clear BK274)
              (try clear BK286)
              (try clear HB)
              generalize (((((w36.setCell ⟨gb286, 0, none⟩ (.int .u8 t280)).setCell ⟨gb286, 1, none⟩ (.int .i64 t281)).setCell ⟨gb286, 2, none⟩ (.int .i64 t282)).setCell ⟨gb286, 3, none⟩ (.int .i64 t283)).setCell ⟨gb286, 4, none⟩ (.int .i64 t284)) = w53 at n0_ n1_ n2_ n3_ ⊢
              have BK273 := n0_
              have BK274 := n1_
              have BK286 := n2_
              have HB := n3_
              clear n0_ n1_ n2_ n3_
              obtain ⟨BK273, BK274, BK286, HB⟩ := And.intro (Aside0.mk (blk_drew BK273.out)) (And.intro (Aside0.mk (blk_drew BK274.out)) (And.intro (Aside0.mk (blk_drew BK286.out)) (Aside0.mk (below_drew1 HB.out))))
              refine start_ (n := 27) (S := fun w' => w'.cell? ⟨gb273, 0, none⟩ = some (.slice A0_0 l0_0.length c0_0) ∧ w'.cell? ⟨gb273, 1, none⟩ = some (.int .i64 a0_1) ∧ w'.cell? ⟨gb273, 2, none⟩ = some (.int .i64 a0_2) ∧ w'.cell? ⟨gb286, 0, none⟩ = some (.int .u8 t280) ∧ w'.cell? ⟨gb286, 1, none⟩ = some (.int .i64 t281) ∧ w'.cell? ⟨gb286, 2, none⟩ = some (.int .i64 t282) ∧ w'.cell? ⟨gb286, 3, none⟩ = some (.int .i64 t283) ∧ w'.cell? ⟨gb286, 4, none⟩ = some (.int .i64 t284) ∧ w'.cell? ⟨gb274, 0, none⟩ = some (.int .u8 x275000_2) ∧ w'.cell? ⟨gb274, 1, none⟩ = some (.int .i64 x275001_2) ∧ w'.cell? ⟨gb274, 2, none⟩ = some (.int .i64 x275002_2) ∧ w'.cell? ⟨gb274, 3, none⟩ = some (.int .i64 x275003_2) ∧ w'.cell? ⟨gb274, 4, none⟩ = some (.int .i64 x275004_2)) (ds := []) (b_ 27 0) (by kernel_rfl) rfl rfl ⟨(blk_cell BK273.out 0).trans rfl, (blk_cell BK273.out 1).trans rfl, (blk_cell BK273.out 2).trans rfl, (blk_cell BK286.out 0).trans rfl, (blk_cell BK286.out 1).trans rfl, (blk_cell BK286.out 2).trans rfl, (blk_cell BK286.out 3).trans rfl, (blk_cell BK286.out 4).trans rfl, (blk_cell BK274.out 0).trans rfl, (blk_cell BK274.out 1).trans rfl, (blk_cell BK274.out 2).trans rfl, (blk_cell BK274.out 3).trans rfl, (blk_cell BK274.out 4).trans rfl⟩ (fun hHeld => ?_); refine with_tabW millhandlaw24_TaskRuns.tab12 millhandlaw24_TaskRuns.bits12 (fun HT_ HW_ => ?_)
              generalize w53.drew = w54 at BK273 BK274 BK286 HB hHeld ⊢
              refine tA_ 0 72 ?_ (b_ 27 1) (take_ofW HT_.out HW_.out (by kernel_rfl)) rfl rfl (fun _ _ _ h => h) (by rfl) ?_ hHeld ?_ ?_ ?_
              rotate_left
              ·
               rintro w' ⟨s0, s1, s2, s3, s4, s5, s6, s7, s8, s9, s10, s11, s12⟩
               go_simp
               with_reducible rfl
              rotate_left
              ·
               simp only [Act.put, sa_, s0_, s1_, i64_w, i32_w]
               rfl
              refine tA_ 1 73 ?_ (b_ 27 3) (take_ofW HT_.out HW_.out (by kernel_rfl)) rfl rfl (fun _ _ _ h => h) (by rfl) ?_ hHeld ?_ ?_ ?_
              rotate_left
              ·
               rintro w' ⟨s0, s1, s2, s3, s4, s5, s6, s7, s8, s9, s10, s11, s12⟩
               go_simp
               with_reducible rfl
              rotate_left
              ·
               simp only [Act.put, sa_, s0_, s1_, i64_w, i32_w]
               rfl
              refine one_ (i := 2) (N := some 74) (b_ 27 7) rfl rfl (one_of HT_.out (by kernel_rfl)) (by decide) (fun K hK => ?_)
              refine goes_ Try.func9 (by kernel_rfl) rfl #[.agg #[.slice A0_0 l0_0.length c0_0, .int .i64 a0_1, .int .i64 a0_2], .agg #[.int .u8 t280, .int .i64 t281, .int .i64 t282, .int .i64 t283, .int .i64 t284]] (by rfl) rfl rfl (by (try simp only [List.map_toArray, List.map_cons, List.map_nil]); first | done | rfl | (simp only [List.length_drop, List.length_take]; rfl)) ?_
              with_reducible refine (task_Check.calls k2 _ _ l0_0 a0_1 a0_2 t280 t281 t282 t283 t284 t288 _ ?side1 ?side2 A42.out).mono ?_
              (case side1 => repeat (first | exact (Kd.C_below HR0_0.out HB.out) | (with_reducible refine Kd.C_alloc ?_ _) | (with_reducible refine Kd.C_drewN ?_ _) | (with_reducible refine Kd.C_drew ?_)))
              (case side2 => exact HC0_0.out)
              rintro e w55 ⟨rfl, hb⟩
              refine ⟨_, rfl, ?_⟩
              obtain ⟨BK273, BK274, BK286, HB⟩ := And.intro (Aside0.mk (blk_below (g := gb273) (o := .cells #[.slice A0_0 l0_0.length c0_0, .int .i64 a0_1, .int .i64 a0_2] 24 (0, 0)) (by (with_reducible repeat (first | refine blk_drewN ?_ _ | refine blk_drew ?_ | refine blk_alloc ?_ _)); exact BK273.out) hb)) (And.intro (Aside0.mk (blk_below (g := gb274) (o := .cells #[.int .u8 x275000_2, .int .i64 x275001_2, .int .i64 x275002_2, .int .i64 x275003_2, .int .i64 x275004_2] 31 (0, 0)) (by (with_reducible repeat (first | refine blk_drewN ?_ _ | refine blk_drew ?_ | refine blk_alloc ?_ _)); exact BK274.out) hb)) (And.intro (Aside0.mk (blk_below (g := gb286) (o := .cells #[.int .u8 t280, .int .i64 t281, .int .i64 t282, .int .i64 t283, .int .i64 t284] 31 (0, 0)) (by (with_reducible repeat (first | refine blk_drewN ?_ _ | refine blk_drew ?_ | refine blk_alloc ?_ _)); exact BK286.out) hb)) (Aside0.mk (below_step (by repeat (first | (with_reducible first | exact HB.out | apply below_alloc | apply pw_below_drewN | apply below_drew1 | refine below_set ?_ GE273.out | refine below_set ?_ GE274.out | refine below_set ?_ GE286.out) | exact HB.out)) hb))))
              (try clear hb)
              (try clear hb2)
              (try clear hk)
              (try clear hi)
              refine hK.out _ _ ⟨(blk_cell BK273.out 0).trans rfl, (blk_cell BK273.out 1).trans rfl, (blk_cell BK273.out 2).trans rfl, (blk_cell BK286.out 0).trans rfl, (blk_cell BK286.out 1).trans rfl, (blk_cell BK286.out 2).trans rfl, (blk_cell BK286.out 3).trans rfl, (blk_cell BK286.out 4).trans rfl, (blk_cell BK274.out 0).trans rfl, (blk_cell BK274.out 1).trans rfl, (blk_cell BK274.out 2).trans rfl, (blk_cell BK274.out 3).trans rfl, (blk_cell BK274.out 4).trans rfl⟩ (fun hHeld => ?_)
              clear hK K
              refine norm_ (a' := ?_) ?_ ?_
              rotate_left
              ·
               show Act.put _ (some 74) _ = _
               simp only [Act.put, sa_, s0_, s1_, i64_w, i32_w]
               rfl
              refine pA_ 3 75 ?_ (b_ 27 15) (any_of HT_.out (by kernel_rfl)) rfl rfl (fun _ _ _ h => h) (by rfl) ?_ ?_ ?_ ?_
              rotate_left
              ·
               intro w'
               go_simp
               with_reducible rfl
              rotate_left
              ·
               simp only [Act.put, sa_, s0_, s1_, i64_w, i32_w]
               rfl
              refine pA_ 4 76 ?_ (b_ 27 31) (any_of HT_.out (by kernel_rfl)) rfl rfl (fun _ _ _ h => h) (by rfl) ?_ ?_ ?_ ?_
              rotate_left
              ·
               intro w'
               go_simp
               with_reducible rfl
              rotate_left
              ·
               simp only [Act.put, sa_, s0_, s1_, i64_w, i32_w]
               rfl
              refine pA_ 5 77 ?_ (b_ 27 63) (any_of HT_.out (by kernel_rfl)) rfl rfl (fun _ _ _ h => h) (by rfl) ?_ ?_ ?_ ?_
              rotate_left
              ·
               intro w'
               go_simp
               with_reducible rfl
              rotate_left
              ·
               simp only [Act.put, sa_, s0_, s1_, i64_w, i32_w]
               rfl
              refine tA_ 6 78 ?_ (b_ 27 127) (take_ofW HT_.out HW_.out (by kernel_rfl)) rfl rfl (fun _ _ _ h => h) (by rfl) ?_ hHeld ?_ ?_ ?_
              rotate_left
              ·
               rintro w' ⟨s0, s1, s2, s3, s4, s5, s6, s7, s8, s9, s10, s11, s12⟩
               go_simp
               with_reducible rfl
              rotate_left
              ·
               simp only [Act.put, sa_, s0_, s1_, i64_w, i32_w]
               rfl
              refine pA_ 7 79 ?_ (b_ 27 255) (any_of HT_.out (by kernel_rfl)) rfl rfl (fun _ _ _ h => h) (by rfl) ?_ ?_ ?_ ?_
              rotate_left
              ·
               intro w'
               go_simp
               with_reducible rfl
              rotate_left
              ·
               simp only [Act.put, sa_, s0_, s1_, i64_w, i32_w]
               rfl
              refine pA_ 8 80 ?_ (b_ 27 511) (any_of HT_.out (by kernel_rfl)) rfl rfl (fun _ _ _ h => h) (by rfl) ?_ ?_ ?_ ?_
              rotate_left
              ·
               intro w'
               go_simp
               with_reducible rfl
              rotate_left
              ·
               simp only [Act.put, sa_, s0_, s1_, i64_w, i32_w]
               rfl
              refine pA_ 9 81 ?_ (b_ 27 1023) (any_of HT_.out (by kernel_rfl)) rfl rfl (fun _ _ _ h => h) (by rfl) ?_ ?_ ?_ ?_
              rotate_left
              ·
               intro w'
               go_simp
               with_reducible rfl
              rotate_left
              ·
               simp only [Act.put, sa_, s0_, s1_, i64_w, i32_w]
               rfl
              refine pA_ 10 82 ?_ (b_ 27 2047) (any_of HT_.out (by kernel_rfl)) rfl rfl (fun _ _ _ h => h) (by rfl) ?_ ?_ ?_ ?_
              rotate_left
              ·
               intro w'
               go_simp
               with_reducible rfl
              rotate_left
              ·
               simp only [Act.put, sa_, s0_, s1_, i64_w, i32_w]
               rfl
              refine pA_ 11 83 ?_ (b_ 27 4095) (any_of HT_.out (by kernel_rfl)) rfl rfl (fun _ _ _ h => h) (by rfl) ?_ ?_ ?_ ?_
              rotate_left
              ·
               intro w'
               go_simp
               with_reducible rfl
              rotate_left
              ·
               simp only [Act.put, sa_, s0_, s1_, i64_w, i32_w]
               rfl
              refine pA_ 12 84 ?_ (b_ 27 8191) (any_of HT_.out (by kernel_rfl)) rfl rfl (fun _ _ _ h => h) (by rfl) ?_ ?_ ?_ ?_
              rotate_left
              ·
               intro w'
               go_simp
               with_reducible rfl
              rotate_left
              ·
               simp only [Act.put, sa_, s0_, s1_, i64_w, i32_w]
               rfl
              refine pA_ 13 85 ?_ (b_ 27 16383) (any_of HT_.out (by kernel_rfl)) rfl rfl (fun _ _ _ h => h) (by rfl) ?_ ?_ ?_ ?_
              rotate_left
              ·
               intro w'
               go_simp
               with_reducible rfl
              rotate_left
              ·
               simp only [Act.put, sa_, s0_, s1_, i64_w, i32_w]
               rfl
              refine pA_ 14 86 ?_ (b_ 27 32767) (any_of HT_.out (by kernel_rfl)) rfl rfl (fun _ _ _ h => h) (by rfl) ?_ ?_ ?_ ?_
              rotate_left
              ·
               intro w'
               go_simp
               with_reducible rfl
              rotate_left
              ·
               simp only [Act.put, sa_, s0_, s1_, i64_w, i32_w]
               rfl
              refine pA_ 15 87 ?_ (b_ 27 65535) (any_of HT_.out (by kernel_rfl)) rfl rfl (fun _ _ _ h => h) (by rfl) ?_ ?_ ?_ ?_
              rotate_left
              ·
               intro w'
               go_simp
               with_reducible rfl
              rotate_left
              ·
               simp only [Act.put, sa_, s0_, s1_, i64_w, i32_w]
               rfl
              refine pA_ 16 88 ?_ (b_ 27 131071) (any_of HT_.out (by kernel_rfl)) rfl rfl (fun _ _ _ h => h) (by rfl) ?_ ?_ ?_ ?_
              rotate_left
              ·
               intro w'
               go_simp
               with_reducible rfl
              rotate_left
              ·
               simp only [Act.put, sa_, s0_, s1_, i64_w, i32_w]
               rfl
              refine pB_ 17 89 ?_ (b_ 27 262143) (any_of HT_.out (by kernel_rfl)) rfl rfl (fun _ _ _ h => h) (by rfl) ?_ ?_
              rotate_left
              ·
               simp only [Act.put, sa_, s0_, s1_, i64_w, i32_w]
               rfl
              refine pB_ 18 90 ?_ (b_ 27 524287) (any_of HT_.out (by kernel_rfl)) rfl rfl (fun _ _ _ h => h) (by rfl) ?_ ?_
              rotate_left
              ·
               simp only [Act.put, sa_, s0_, s1_, i64_w, i32_w]
               rfl
              refine pB_ 19 91 ?_ (b_ 27 1048575) (any_of HT_.out (by kernel_rfl)) rfl rfl (fun _ _ _ h => h) (by rfl) ?_ ?_
              rotate_left
              ·
               simp only [Act.put, sa_, s0_, s1_, i64_w, i32_w]
               rfl
              refine pB_ 20 92 ?_ (b_ 27 2097151) (any_of HT_.out (by kernel_rfl)) rfl rfl (fun _ _ _ h => h) (by rfl) ?_ ?_
              rotate_left
              ·
               simp only [Act.put, sa_, s0_, s1_, i64_w, i32_w]
               rfl
              refine pB_ 21 93 ?_ (b_ 27 4194303) (any_of HT_.out (by kernel_rfl)) rfl rfl (fun _ _ _ h => h) (by rfl) ?_ ?_
              rotate_left
              ·
               simp only [Act.put, sa_, s0_, s1_, i64_w, i32_w]
               rfl
              refine pB_ 22 94 ?_ (b_ 27 8388607) (any_of HT_.out (by kernel_rfl)) rfl rfl (fun _ _ _ h => h) (by rfl) ?_ ?_
              rotate_left
              ·
               simp only [Act.put, sa_, s0_, s1_, i64_w, i32_w]
               rfl
              refine pB_ 23 95 ?_ (b_ 27 16777215) (any_of HT_.out (by kernel_rfl)) rfl rfl (fun _ _ _ h => h) (by rfl) ?_ ?_
              rotate_left
              ·
               simp only [Act.put, sa_, s0_, s1_, i64_w, i32_w]
               rfl
              refine pB_ 24 96 ?_ (b_ 27 33554431) (any_of HT_.out (by kernel_rfl)) rfl rfl (fun _ _ _ h => h) (by rfl) ?_ ?_
              rotate_left
              ·
               simp only [Act.put, sa_, s0_, s1_, i64_w, i32_w]
               rfl
              refine pA_ 25 97 ?_ (b_ 27 67108863) (any_of HT_.out (by kernel_rfl)) rfl rfl (fun _ _ _ h => h) (by rfl) ?_ ?_ ?_ ?_
              rotate_left
              ·
               intro w'
               go_simp
               with_reducible rfl
              rotate_left
              ·
               simp only [Act.put, sa_, s0_, s1_, i64_w, i32_w]
               rfl
              refine pA_ 26 98 ?_ (b_ 27 134217727) (any_of HT_.out (by kernel_rfl)) rfl rfl (fun _ _ _ h => h) (by rfl) ?_ ?_ ?_ ?_
              rotate_left
              ·
               intro w'
               go_simp
               with_reducible rfl
              rotate_left
              ·
               simp only [Act.put, sa_, s0_, s1_, i64_w, i32_w]
               rfl
              refine done_ (done_of HT_.out (by kernel_rfl)) ?_
              try go_wp2
              go_meet
              case rel => exact ⟨_, (false), (by first | rfl | (simp; done) | (simp [*]; done)), H', ⟨by have := HJ4.out; have := HK2.out; first | omega | exact Nat.le_refl _⟩, ⟨by (with_reducible repeat (first | refine blk_drewN ?_ _ | refine blk_drew ?_ | refine blk_alloc ?_ _)); exact BK273.out⟩, ⟨by (with_reducible repeat (first | refine blk_drewN ?_ _ | refine blk_drew ?_ | refine blk_alloc ?_ _)); exact BK274.out⟩, ⟨by (with_reducible repeat (first | refine blk_drewN ?_ _ | refine blk_drew ?_ | refine blk_alloc ?_ _)); exact BK286.out⟩, ⟨by repeat (first | (with_reducible first | exact HB.out | apply below_alloc | apply pw_below_drewN | apply below_drew1 | refine below_set ?_ GE273.out | refine below_set ?_ GE274.out | refine below_set ?_ GE286.out) | exact HB.out)⟩⟩
            ·
             rw [if_neg c48] at H
             have c48b0 : decide (2 ≤ (Int.tmod ((rd_T37 l2 x10_2).f0) 8)) = false := decide_eq_false c48
             clear c48
             have H' := Aside0.mk H
             clear H
             try go_wp2
             have n0_ : Aside0 ((((((w36.setCell ⟨gb286, 0, none⟩ (.int .u8 t280)).setCell ⟨gb286, 1, none⟩ (.int .i64 t281)).setCell ⟨gb286, 2, none⟩ (.int .i64 t282)).setCell ⟨gb286, 3, none⟩ (.int .i64 t283)).setCell ⟨gb286, 4, none⟩ (.int .i64 t284)).heap[gb273]? = some (.cells #[.slice A0_0 l0_0.length c0_0, .int .i64 a0_1, .int .i64 a0_2] 24 (0, 0))) := ⟨by (with_reducible repeat (first | refine blk_drewN ?_ _ | refine blk_drew ?_ | refine blk_alloc ?_ _)); refine blk_far ?_ NB273_286.out _; (with_reducible repeat (first | refine blk_drewN ?_ _ | refine blk_drew ?_ | refine blk_alloc ?_ _)); refine blk_far ?_ NB273_286.out _; (with_reducible repeat (first | refine blk_drewN ?_ _ | refine blk_drew ?_ | refine blk_alloc ?_ _)); refine blk_far ?_ NB273_286.out _; (with_reducible repeat (first | refine blk_drewN ?_ _ | refine blk_drew ?_ | refine blk_alloc ?_ _)); refine blk_far ?_ NB273_286.out _; (with_reducible repeat (first | refine blk_drewN ?_ _ | refine blk_drew ?_ | refine blk_alloc ?_ _)); refine blk_far ?_ NB273_286.out _; (with_reducible repeat (first | refine blk_drewN ?_ _ | refine blk_drew ?_ | refine blk_alloc ?_ _)); exact BK273.out⟩
             have n1_ : Aside0 ((((((w36.setCell ⟨gb286, 0, none⟩ (.int .u8 t280)).setCell ⟨gb286, 1, none⟩ (.int .i64 t281)).setCell ⟨gb286, 2, none⟩ (.int .i64 t282)).setCell ⟨gb286, 3, none⟩ (.int .i64 t283)).setCell ⟨gb286, 4, none⟩ (.int .i64 t284)).heap[gb274]? = some (.cells #[.int .u8 x275000_2, .int .i64 x275001_2, .int .i64 x275002_2, .int .i64 x275003_2, .int .i64 x275004_2] 31 (0, 0))) := ⟨by (with_reducible repeat (first | refine blk_drewN ?_ _ | refine blk_drew ?_ | refine blk_alloc ?_ _)); refine blk_far ?_ NB274_286.out _; (with_reducible repeat (first | refine blk_drewN ?_ _ | refine blk_drew ?_ | refine blk_alloc ?_ _)); refine blk_far ?_ NB274_286.out _; (with_reducible repeat (first | refine blk_drewN ?_ _ | refine blk_drew ?_ | refine blk_alloc ?_ _)); refine blk_far ?_ NB274_286.out _; (with_reducible repeat (first | refine blk_drewN ?_ _ | refine blk_drew ?_ | refine blk_alloc ?_ _)); refine blk_far ?_ NB274_286.out _; (with_reducible repeat (first | refine blk_drewN ?_ _ | refine blk_drew ?_ | refine blk_alloc ?_ _)); refine blk_far ?_ NB274_286.out _; (with_reducible repeat (first | refine blk_drewN ?_ _ | refine blk_drew ?_ | refine blk_alloc ?_ _)); exact BK274.out⟩
             have n2_ : Aside0 ((((((w36.setCell ⟨gb286, 0, none⟩ (.int .u8 t280)).setCell ⟨gb286, 1, none⟩ (.int .i64 t281)).setCell ⟨gb286, 2, none⟩ (.int .i64 t282)).setCell ⟨gb286, 3, none⟩ (.int .i64 t283)).setCell ⟨gb286, 4, none⟩ (.int .i64 t284)).heap[gb286]? = some (.cells #[.int .u8 t280, .int .i64 t281, .int .i64 t282, .int .i64 t283, .int .i64 t284] 31 (0, 0))) := ⟨by (with_reducible repeat (first | refine blk_drewN ?_ _ | refine blk_drew ?_ | refine blk_alloc ?_ _)); refine blk_put (cs := #[.int .u8 t280, .int .i64 t281, .int .i64 t282, .int .i64 t283, .int .i64 0]) ?_ 4 _ rfl; (with_reducible repeat (first | refine blk_drewN ?_ _ | refine blk_drew ?_ | refine blk_alloc ?_ _)); refine blk_put (cs := #[.int .u8 t280, .int .i64 t281, .int .i64 t282, .int .i64 0, .int .i64 0]) ?_ 3 _ rfl; (with_reducible repeat (first | refine blk_drewN ?_ _ | refine blk_drew ?_ | refine blk_alloc ?_ _)); refine blk_put (cs := #[.int .u8 t280, .int .i64 t281, .int .i64 0, .int .i64 0, .int .i64 0]) ?_ 2 _ rfl; (with_reducible repeat (first | refine blk_drewN ?_ _ | refine blk_drew ?_ | refine blk_alloc ?_ _)); refine blk_put (cs := #[.int .u8 t280, .int .i64 0, .int .i64 0, .int .i64 0, .int .i64 0]) ?_ 1 _ rfl; (with_reducible repeat (first | refine blk_drewN ?_ _ | refine blk_drew ?_ | refine blk_alloc ?_ _)); refine blk_put (cs := #[.int .u8 0, .int .i64 0, .int .i64 0, .int .i64 0, .int .i64 0]) ?_ 0 _ rfl; (with_reducible repeat (first | refine blk_drewN ?_ _ | refine blk_drew ?_ | refine blk_alloc ?_ _)); exact BK286.out⟩
             have n3_ : Aside0 (Below w.heap.size w (((((w36.setCell ⟨gb286, 0, none⟩ (.int .u8 t280)).setCell ⟨gb286, 1, none⟩ (.int .i64 t281)).setCell ⟨gb286, 2, none⟩ (.int .i64 t282)).setCell ⟨gb286, 3, none⟩ (.int .i64 t283)).setCell ⟨gb286, 4, none⟩ (.int .i64 t284))) := ⟨by repeat (first | (with_reducible first | exact HB.out | apply below_alloc | apply pw_below_drewN | apply below_drew1 | refine below_set ?_ GE273.out | refine below_set ?_ GE274.out | refine below_set ?_ GE286.out) | exact HB.out)⟩
             (try clear BK273)
             (try clear BK274)
             (try clear BK286)
             (try clear HB)
             generalize (((((w36.setCell ⟨gb286, 0, none⟩ (.int .u8 t280)).setCell ⟨gb286, 1, none⟩ (.int .i64 t281)).setCell ⟨gb286, 2, none⟩ (.int .i64 t282)).setCell ⟨gb286, 3, none⟩ (.int .i64 t283)).setCell ⟨gb286, 4, none⟩ (.int .i64 t284)) = w56 at n0_ n1_ n2_ n3_ ⊢
             have BK273 := n0_
             have BK274 := n1_
             have BK286 := n2_
             have HB := n3_
             clear n0_ n1_ n2_ n3_
             obtain ⟨BK273, BK274, BK286, HB⟩ := And.intro (Aside0.mk (blk_drew BK273.out)) (And.intro (Aside0.mk (blk_drew BK274.out)) (And.intro (Aside0.mk (blk_drew BK286.out)) (Aside0.mk (below_drew1 HB.out))))
             refine start_ (n := 27) (S := fun w' => w'.cell? ⟨gb273, 0, none⟩ = some (.slice A0_0 l0_0.length c0_0) ∧ w'.cell? ⟨gb273, 1, none⟩ = some (.int .i64 a0_1) ∧ w'.cell? ⟨gb273, 2, none⟩ = some (.int .i64 a0_2) ∧ w'.cell? ⟨gb286, 0, none⟩ = some (.int .u8 t280) ∧ w'.cell? ⟨gb286, 1, none⟩ = some (.int .i64 t281) ∧ w'.cell? ⟨gb286, 2, none⟩ = some (.int .i64 t282) ∧ w'.cell? ⟨gb286, 3, none⟩ = some (.int .i64 t283) ∧ w'.cell? ⟨gb286, 4, none⟩ = some (.int .i64 t284) ∧ w'.cell? ⟨gb274, 0, none⟩ = some (.int .u8 x275000_2) ∧ w'.cell? ⟨gb274, 1, none⟩ = some (.int .i64 x275001_2) ∧ w'.cell? ⟨gb274, 2, none⟩ = some (.int .i64 x275002_2) ∧ w'.cell? ⟨gb274, 3, none⟩ = some (.int .i64 x275003_2) ∧ w'.cell? ⟨gb274, 4, none⟩ = some (.int .i64 x275004_2)) (ds := []) (b_ 27 0) (by kernel_rfl) rfl rfl ⟨(blk_cell BK273.out 0).trans rfl, (blk_cell BK273.out 1).trans rfl, (blk_cell BK273.out 2).trans rfl, (blk_cell BK286.out 0).trans rfl, (blk_cell BK286.out 1).trans rfl, (blk_cell BK286.out 2).trans rfl, (blk_cell BK286.out 3).trans rfl, (blk_cell BK286.out 4).trans rfl, (blk_cell BK274.out 0).trans rfl, (blk_cell BK274.out 1).trans rfl, (blk_cell BK274.out 2).trans rfl, (blk_cell BK274.out 3).trans rfl, (blk_cell BK274.out 4).trans rfl⟩ (fun hHeld => ?_); refine with_tabW millhandlaw24_TaskRuns.tab12 millhandlaw24_TaskRuns.bits12 (fun HT_ HW_ => ?_)
             generalize w56.drew = w57 at BK273 BK274 BK286 HB hHeld ⊢
             refine tA_ 0 72 ?_ (b_ 27 1) (take_ofW HT_.out HW_.out (by kernel_rfl)) rfl rfl (fun _ _ _ h => h) (by rfl) ?_ hHeld ?_ ?_ ?_
             rotate_left
             ·
              rintro w' ⟨s0, s1, s2, s3, s4, s5, s6, s7, s8, s9, s10, s11, s12⟩
              go_simp
              with_reducible rfl
             rotate_left
             ·
              simp only [Act.put, sa_, s0_, s1_, i64_w, i32_w]
              rfl
             refine tA_ 1 73 ?_ (b_ 27 3) (take_ofW HT_.out HW_.out (by kernel_rfl)) rfl rfl (fun _ _ _ h => h) (by rfl) ?_ hHeld ?_ ?_ ?_
             rotate_left
             ·
              rintro w' ⟨s0, s1, s2, s3, s4, s5, s6, s7, s8, s9, s10, s11, s12⟩
              go_simp
              with_reducible rfl
             rotate_left
             ·
              simp only [Act.put, sa_, s0_, s1_, i64_w, i32_w]
              rfl
             refine one_ (i := 2) (N := some 74) (b_ 27 7) rfl rfl (one_of HT_.out (by kernel_rfl)) (by decide) (fun K hK => ?_)
             refine goes_ Try.func9 (by kernel_rfl) rfl #[.agg #[.slice A0_0 l0_0.length c0_0, .int .i64 a0_1, .int .i64 a0_2], .agg #[.int .u8 t280, .int .i64 t281, .int .i64 t282, .int .i64 t283, .int .i64 t284]] (by rfl) rfl rfl (by (try simp only [List.map_toArray, List.map_cons, List.map_nil]); first | done | rfl | (simp only [List.length_drop, List.length_take]; rfl)) ?_
             with_reducible refine (task_Check.calls k2 _ _ l0_0 a0_1 a0_2 t280 t281 t282 t283 t284 t288 _ ?side1 ?side2 A42.out).mono ?_
             (case side1 => repeat (first | exact (Kd.C_below HR0_0.out HB.out) | (with_reducible refine Kd.C_alloc ?_ _) | (with_reducible refine Kd.C_drewN ?_ _) | (with_reducible refine Kd.C_drew ?_)))
             (case side2 => exact HC0_0.out)
             rintro e w58 ⟨rfl, hb⟩
             refine ⟨_, rfl, ?_⟩
             obtain ⟨BK273, BK274, BK286, HB⟩ := And.intro (Aside0.mk (blk_below (g := gb273) (o := .cells #[.slice A0_0 l0_0.length c0_0, .int .i64 a0_1, .int .i64 a0_2] 24 (0, 0)) (by (with_reducible repeat (first | refine blk_drewN ?_ _ | refine blk_drew ?_ | refine blk_alloc ?_ _)); exact BK273.out) hb)) (And.intro (Aside0.mk (blk_below (g := gb274) (o := .cells #[.int .u8 x275000_2, .int .i64 x275001_2, .int .i64 x275002_2, .int .i64 x275003_2, .int .i64 x275004_2] 31 (0, 0)) (by (with_reducible repeat (first | refine blk_drewN ?_ _ | refine blk_drew ?_ | refine blk_alloc ?_ _)); exact BK274.out) hb)) (And.intro (Aside0.mk (blk_below (g := gb286) (o := .cells #[.int .u8 t280, .int .i64 t281, .int .i64 t282, .int .i64 t283, .int .i64 t284] 31 (0, 0)) (by (with_reducible repeat (first | refine blk_drewN ?_ _ | refine blk_drew ?_ | refine blk_alloc ?_ _)); exact BK286.out) hb)) (Aside0.mk (below_step (by repeat (first | (with_reducible first | exact HB.out | apply below_alloc | apply pw_below_drewN | apply below_drew1 | refine below_set ?_ GE273.out | refine below_set ?_ GE274.out | refine below_set ?_ GE286.out) | exact HB.out)) hb))))
             (try clear hb)
             (try clear hb2)
             (try clear hk)
             (try clear hi)
             refine hK.out _ _ ⟨(blk_cell BK273.out 0).trans rfl, (blk_cell BK273.out 1).trans rfl, (blk_cell BK273.out 2).trans rfl, (blk_cell BK286.out 0).trans rfl, (blk_cell BK286.out 1).trans rfl, (blk_cell BK286.out 2).trans rfl, (blk_cell BK286.out 3).trans rfl, (blk_cell BK286.out 4).trans rfl, (blk_cell BK274.out 0).trans rfl, (blk_cell BK274.out 1).trans rfl, (blk_cell BK274.out 2).trans rfl, (blk_cell BK274.out 3).trans rfl, (blk_cell BK274.out 4).trans rfl⟩ (fun hHeld => ?_)
             clear hK K
             refine norm_ (a' := ?_) ?_ ?_
             rotate_left
             ·
              show Act.put _ (some 74) _ = _
              simp only [Act.put, sa_, s0_, s1_, i64_w, i32_w]
              rfl
             refine pA_ 3 75 ?_ (b_ 27 15) (any_of HT_.out (by kernel_rfl)) rfl rfl (fun _ _ _ h => h) (by rfl) ?_ ?_ ?_ ?_
             rotate_left
             ·
              intro w'
              go_simp
              with_reducible rfl
             rotate_left
             ·
              simp only [Act.put, sa_, s0_, s1_, i64_w, i32_w]
              rfl
             refine pA_ 4 76 ?_ (b_ 27 31) (any_of HT_.out (by kernel_rfl)) rfl rfl (fun _ _ _ h => h) (by rfl) ?_ ?_ ?_ ?_
             rotate_left
             ·
              intro w'
              go_simp
              with_reducible rfl
             rotate_left
             ·
              simp only [Act.put, sa_, s0_, s1_, i64_w, i32_w]
              rfl
             refine pA_ 5 77 ?_ (b_ 27 63) (any_of HT_.out (by kernel_rfl)) rfl rfl (fun _ _ _ h => h) (by rfl) ?_ ?_ ?_ ?_
             rotate_left
             ·
              intro w'
              go_simp
              with_reducible rfl
             rotate_left
             ·
              simp only [Act.put, sa_, s0_, s1_, i64_w, i32_w]
              rfl
             refine tA_ 6 78 ?_ (b_ 27 127) (take_ofW HT_.out HW_.out (by kernel_rfl)) rfl rfl (fun _ _ _ h => h) (by rfl) ?_ hHeld ?_ ?_ ?_
             rotate_left
             ·
              rintro w' ⟨s0, s1, s2, s3, s4, s5, s6, s7, s8, s9, s10, s11, s12⟩
              go_simp
              with_reducible rfl
             rotate_left
             ·
              simp only [Act.put, sa_, s0_, s1_, i64_w, i32_w]
              rfl
             refine pA_ 7 79 ?_ (b_ 27 255) (any_of HT_.out (by kernel_rfl)) rfl rfl (fun _ _ _ h => h) (by rfl) ?_ ?_ ?_ ?_
             rotate_left
             ·
              intro w'
              go_simp
              with_reducible rfl
             rotate_left
             ·
              simp only [Act.put, sa_, s0_, s1_, i64_w, i32_w]
              rfl
             refine pA_ 8 80 ?_ (b_ 27 511) (any_of HT_.out (by kernel_rfl)) rfl rfl (fun _ _ _ h => h) (by rfl) ?_ ?_ ?_ ?_
             rotate_left
             ·
              intro w'
              go_simp
              with_reducible rfl
             rotate_left
             ·
              simp only [Act.put, sa_, s0_, s1_, i64_w, i32_w]
              rfl
             refine pA_ 9 81 ?_ (b_ 27 1023) (any_of HT_.out (by kernel_rfl)) rfl rfl (fun _ _ _ h => h) (by rfl) ?_ ?_ ?_ ?_
             rotate_left
             ·
              intro w'
              go_simp
              with_reducible rfl
             rotate_left
             ·
              simp only [Act.put, sa_, s0_, s1_, i64_w, i32_w]
              rfl
             refine pA_ 10 82 ?_ (b_ 27 2047) (any_of HT_.out (by kernel_rfl)) rfl rfl (fun _ _ _ h => h) (by rfl) ?_ ?_ ?_ ?_
             rotate_left
             ·
              intro w'
              go_simp
              with_reducible rfl
             rotate_left
             ·
              simp only [Act.put, sa_, s0_, s1_, i64_w, i32_w]
              rfl
             refine pA_ 11 83 ?_ (b_ 27 4095) (any_of HT_.out (by kernel_rfl)) rfl rfl (fun _ _ _ h => h) (by rfl) ?_ ?_ ?_ ?_
             rotate_left
             ·
              intro w'
              go_simp
              with_reducible rfl
             rotate_left
             ·
              simp only [Act.put, sa_, s0_, s1_, i64_w, i32_w]
              rfl
             refine pA_ 12 84 ?_ (b_ 27 8191) (any_of HT_.out (by kernel_rfl)) rfl rfl (fun _ _ _ h => h) (by rfl) ?_ ?_ ?_ ?_
             rotate_left
             ·
              intro w'
              go_simp
              with_reducible rfl
             rotate_left
             ·
              simp only [Act.put, sa_, s0_, s1_, i64_w, i32_w]
              rfl
             refine pB_ 13 85 ?_ (b_ 27 16383) (any_of HT_.out (by kernel_rfl)) rfl rfl (fun _ _ _ h => h) (by rfl) ?_ ?_
             rotate_left
             ·
              simp only [Act.put, sa_, s0_, s1_, i64_w, i32_w]
              rfl
             refine pB_ 14 86 ?_ (b_ 27 32767) (any_of HT_.out (by kernel_rfl)) rfl rfl (fun _ _ _ h => h) (by rfl) ?_ ?_
             rotate_left
             ·
              simp only [Act.put, sa_, s0_, s1_, i64_w, i32_w]
              rfl
             refine pA_ 15 87 ?_ (b_ 27 65535) (any_of HT_.out (by kernel_rfl)) rfl rfl (fun _ _ _ h => h) (by rfl) ?_ ?_ ?_ ?_
             rotate_left
             ·
              intro w'
              go_simp
              with_reducible rfl
             rotate_left
             ·
              simp only [Act.put, sa_, s0_, s1_, i64_w, i32_w]
              rfl
             refine pA_ 16 88 ?_ (b_ 27 131071) (any_of HT_.out (by kernel_rfl)) rfl rfl (fun _ _ _ h => h) (by rfl) ?_ ?_ ?_ ?_
             rotate_left
             ·
              intro w'
              go_simp
              with_reducible rfl
             rotate_left
             ·
              simp only [Act.put, sa_, s0_, s1_, i64_w, i32_w]
              rfl
             refine pB_ 17 89 ?_ (b_ 27 262143) (any_of HT_.out (by kernel_rfl)) rfl rfl (fun _ _ _ h => h) (by rfl) ?_ ?_
             rotate_left
             ·
              simp only [Act.put, sa_, s0_, s1_, i64_w, i32_w]
              rfl
             refine pB_ 18 90 ?_ (b_ 27 524287) (any_of HT_.out (by kernel_rfl)) rfl rfl (fun _ _ _ h => h) (by rfl) ?_ ?_
             rotate_left
             ·
              simp only [Act.put, sa_, s0_, s1_, i64_w, i32_w]
              rfl
             refine pB_ 19 91 ?_ (b_ 27 1048575) (any_of HT_.out (by kernel_rfl)) rfl rfl (fun _ _ _ h => h) (by rfl) ?_ ?_
             rotate_left
             ·
              simp only [Act.put, sa_, s0_, s1_, i64_w, i32_w]
              rfl
             refine pB_ 20 92 ?_ (b_ 27 2097151) (any_of HT_.out (by kernel_rfl)) rfl rfl (fun _ _ _ h => h) (by rfl) ?_ ?_
             rotate_left
             ·
              simp only [Act.put, sa_, s0_, s1_, i64_w, i32_w]
              rfl
             refine pB_ 21 93 ?_ (b_ 27 4194303) (any_of HT_.out (by kernel_rfl)) rfl rfl (fun _ _ _ h => h) (by rfl) ?_ ?_
             rotate_left
             ·
              simp only [Act.put, sa_, s0_, s1_, i64_w, i32_w]
              rfl
             refine pB_ 22 94 ?_ (b_ 27 8388607) (any_of HT_.out (by kernel_rfl)) rfl rfl (fun _ _ _ h => h) (by rfl) ?_ ?_
             rotate_left
             ·
              simp only [Act.put, sa_, s0_, s1_, i64_w, i32_w]
              rfl
             refine pB_ 23 95 ?_ (b_ 27 16777215) (any_of HT_.out (by kernel_rfl)) rfl rfl (fun _ _ _ h => h) (by rfl) ?_ ?_
             rotate_left
             ·
              simp only [Act.put, sa_, s0_, s1_, i64_w, i32_w]
              rfl
             refine pB_ 24 96 ?_ (b_ 27 33554431) (any_of HT_.out (by kernel_rfl)) rfl rfl (fun _ _ _ h => h) (by rfl) ?_ ?_
             rotate_left
             ·
              simp only [Act.put, sa_, s0_, s1_, i64_w, i32_w]
              rfl
             refine pA_ 25 97 ?_ (b_ 27 67108863) (any_of HT_.out (by kernel_rfl)) rfl rfl (fun _ _ _ h => h) (by rfl) ?_ ?_ ?_ ?_
             rotate_left
             ·
              intro w'
              go_simp
              with_reducible rfl
             rotate_left
             ·
              simp only [Act.put, sa_, s0_, s1_, i64_w, i32_w]
              rfl
             refine pA_ 26 98 ?_ (b_ 27 134217727) (any_of HT_.out (by kernel_rfl)) rfl rfl (fun _ _ _ h => h) (by rfl) ?_ ?_ ?_ ?_
             rotate_left
             ·
              intro w'
              go_simp
              with_reducible rfl
             rotate_left
             ·
              simp only [Act.put, sa_, s0_, s1_, i64_w, i32_w]
              rfl
             refine done_ (done_of HT_.out (by kernel_rfl)) ?_
             try go_wp2
             go_meet
             case rel => exact ⟨_, (false), (by first | rfl | (simp; done) | (simp [*]; done)), H', ⟨by have := HJ4.out; have := HK2.out; first | omega | exact Nat.le_refl _⟩, ⟨by (with_reducible repeat (first | refine blk_drewN ?_ _ | refine blk_drew ?_ | refine blk_alloc ?_ _)); exact BK273.out⟩, ⟨by (with_reducible repeat (first | refine blk_drewN ?_ _ | refine blk_drew ?_ | refine blk_alloc ?_ _)); exact BK274.out⟩, ⟨by (with_reducible repeat (first | refine blk_drewN ?_ _ | refine blk_drew ?_ | refine blk_alloc ?_ _)); exact BK286.out⟩, ⟨by repeat (first | (with_reducible first | exact HB.out | apply below_alloc | apply pw_below_drewN | apply below_drew1 | refine below_set ?_ GE273.out | refine below_set ?_ GE274.out | refine below_set ?_ GE286.out) | exact HB.out)⟩⟩
          ·
           rw [if_neg c43] at H
           have c43b0 : (t288 == 0) = false := beq_eq_false_iff_ne.mpr c43
           have c43b1 : (t288 != 0) = true := bne_iff_ne.mpr c43
           (first | rw [c43b0] | (simp only [i64_w, i32_w]; rw [c43b0]) | skip)
           exact absurd (hr.symm.trans (TaskRuns_j2 H)) (by decide)
         case rest =>
          clear HC32
          try clear p2
          try clear c4
          try clear c9
          try clear c43
          try clear c43b0
          try clear c43b1
          try clear c48
          try clear c48b0
          obtain ⟨kq, x98_31, rfl, HA, HJ31, BK273, BK274, BK286, HB⟩ := hcut
          cases kq with
          | zero => exact absurd HA.out (by simp [millhandlaw24_TaskRuns.j2])
          | succ kj31 =>
           have H := HA.out
           clear HA
           simp only [millhandlaw24_TaskRuns.j2] at H
           by_cases c62 : x98_31 = true
           ·
            subst c62
            have H1 : (some false) = some r := by rw [if_pos rfl] at H; exact H
            clear H
            have H := H1
            clear H1
            exact absurd ((Option.some.inj H).trans hr) (by decide)
           ·
            replace c62 := Bool.eq_false_iff.mpr c62
            subst c62
            have H1 : (if (Int.tmod ((rd_T37 l2 x10_2).f0) 8) = 1 then (if t281 = x275001_2 then (millhandlaw24_TaskRuns.l0 kj31 l2 (wrap64 (x8_2 + 1)) a1_1 (wrap64 (x10_2 + 1)) l0_0 a0_1 a0_2 t280 t281 t282 t283 t284) else (if t281 = (wrap64 (x275001_2 + 1)) then (millhandlaw24_TaskRuns.l0 kj31 l2 (wrap64 (x8_2 + 1)) a1_1 (wrap64 (x10_2 + 1)) l0_0 a0_1 a0_2 t280 t281 t282 t283 t284) else (some false))) else (if t281 = x275001_2 then (millhandlaw24_TaskRuns.l0 kj31 l2 x8_2 a1_1 (wrap64 (x10_2 + 1)) l0_0 a0_1 a0_2 t280 t281 t282 t283 t284) else (some false))) = some r := by rw [if_neg (show ¬ (false = true) by decide)] at H; exact H
            clear H
            have H := H1
            clear H1
            by_cases c63 : (Int.tmod ((rd_T37 l2 x10_2).f0) 8) = 1
            ·
             rw [if_pos c63] at H
             have c63b0 : ((Int.tmod ((rd_T37 l2 x10_2).f0) 8) == 1) = true := beq_iff_eq.mpr c63
             have c63b1 : ((Int.tmod ((rd_T37 l2 x10_2).f0) 8) != 1) = false := bne_eq_false_iff_eq.mpr c63
             clear c63
             by_cases c64 : t281 = x275001_2
             ·
              rw [if_pos c64] at H
              have c64b0 : (t281 == x275001_2) = true := beq_iff_eq.mpr c64
              have c64b1 : (t281 != x275001_2) = false := bne_eq_false_iff_eq.mpr c64
              clear c64
              have H' := Aside0.mk H
              clear H
              have hnb65 := NB286_273.out
              have hnc65 := NB273_286.out
              have hnb66 := NB286_274.out
              have hnc66 := NB274_286.out
              have hcz67_0 : wc.cell? ⟨gb286, 0, none⟩ = some (.int .u8 t280) := (blk_cell BK286.out 0).trans rfl
              have hcz67_1 : wc.cell? ⟨gb286, 1, none⟩ = some (.int .i64 t281) := (blk_cell BK286.out 1).trans rfl
              have hcz67_2 : wc.cell? ⟨gb286, 2, none⟩ = some (.int .i64 t282) := (blk_cell BK286.out 2).trans rfl
              have hcz67_3 : wc.cell? ⟨gb286, 3, none⟩ = some (.int .i64 t283) := (blk_cell BK286.out 3).trans rfl
              have hcz67_4 : wc.cell? ⟨gb286, 4, none⟩ = some (.int .i64 t284) := (blk_cell BK286.out 4).trans rfl
              have hfz67_0 := blk_frozen BK286.out 0
              have hfz67_1 := blk_frozen BK286.out 1
              have hfz67_2 := blk_frozen BK286.out 2
              have hfz67_3 := blk_frozen BK286.out 3
              have hfz67_4 := blk_frozen BK286.out 4
              have hnb68 := NB274_273.out
              have hnc68 := NB273_274.out
              have hcz69_0 : wc.cell? ⟨gb274, 0, none⟩ = some (.int .u8 x275000_2) := (blk_cell BK274.out 0).trans rfl
              have hcz69_1 : wc.cell? ⟨gb274, 1, none⟩ = some (.int .i64 x275001_2) := (blk_cell BK274.out 1).trans rfl
              have hcz69_2 : wc.cell? ⟨gb274, 2, none⟩ = some (.int .i64 x275002_2) := (blk_cell BK274.out 2).trans rfl
              have hcz69_3 : wc.cell? ⟨gb274, 3, none⟩ = some (.int .i64 x275003_2) := (blk_cell BK274.out 3).trans rfl
              have hcz69_4 : wc.cell? ⟨gb274, 4, none⟩ = some (.int .i64 x275004_2) := (blk_cell BK274.out 4).trans rfl
              have hfz69_0 := blk_frozen BK274.out 0
              have hfz69_1 := blk_frozen BK274.out 1
              have hfz69_2 := blk_frozen BK274.out 2
              have hfz69_3 := blk_frozen BK274.out 3
              have hfz69_4 := blk_frozen BK274.out 4
              go_wp2
              go_roundg kj31
              case measure => have := HJ4.out; have := HK2.out; have := HJ31.out; omega
              case rel => exact ⟨(wrap64 (x8_2 + 1)), (wrap64 (x10_2 + 1)), (t280), (t281), (t282), (t283), (t284), (by first | rfl | (simp; done) | (simp [*]; done)), (by first | rfl | (simp; done) | (simp [*]; done)), H', ⟨by have := HJ4.out; have := HK2.out; have := HJ31.out; omega⟩, ⟨by (with_reducible repeat (first | refine blk_drewN ?_ _ | refine blk_drew ?_ | refine blk_alloc ?_ _)); refine blk_far ?_ NB273_274.out _; (with_reducible repeat (first | refine blk_drewN ?_ _ | refine blk_drew ?_ | refine blk_alloc ?_ _)); refine blk_far ?_ NB273_274.out _; (with_reducible repeat (first | refine blk_drewN ?_ _ | refine blk_drew ?_ | refine blk_alloc ?_ _)); refine blk_far ?_ NB273_274.out _; (with_reducible repeat (first | refine blk_drewN ?_ _ | refine blk_drew ?_ | refine blk_alloc ?_ _)); refine blk_far ?_ NB273_274.out _; (with_reducible repeat (first | refine blk_drewN ?_ _ | refine blk_drew ?_ | refine blk_alloc ?_ _)); refine blk_far ?_ NB273_274.out _; (with_reducible repeat (first | refine blk_drewN ?_ _ | refine blk_drew ?_ | refine blk_alloc ?_ _)); exact BK273.out⟩, ⟨by (with_reducible repeat (first | refine blk_drewN ?_ _ | refine blk_drew ?_ | refine blk_alloc ?_ _)); refine blk_put (cs := #[.int .u8 t280, .int .i64 t281, .int .i64 t282, .int .i64 t283, .int .i64 x275004_2]) ?_ 4 _ rfl; (with_reducible repeat (first | refine blk_drewN ?_ _ | refine blk_drew ?_ | refine blk_alloc ?_ _)); refine blk_put (cs := #[.int .u8 t280, .int .i64 t281, .int .i64 t282, .int .i64 x275003_2, .int .i64 x275004_2]) ?_ 3 _ rfl; (with_reducible repeat (first | refine blk_drewN ?_ _ | refine blk_drew ?_ | refine blk_alloc ?_ _)); refine blk_put (cs := #[.int .u8 t280, .int .i64 t281, .int .i64 x275002_2, .int .i64 x275003_2, .int .i64 x275004_2]) ?_ 2 _ rfl; (with_reducible repeat (first | refine blk_drewN ?_ _ | refine blk_drew ?_ | refine blk_alloc ?_ _)); refine blk_put (cs := #[.int .u8 t280, .int .i64 x275001_2, .int .i64 x275002_2, .int .i64 x275003_2, .int .i64 x275004_2]) ?_ 1 _ rfl; (with_reducible repeat (first | refine blk_drewN ?_ _ | refine blk_drew ?_ | refine blk_alloc ?_ _)); refine blk_put (cs := #[.int .u8 x275000_2, .int .i64 x275001_2, .int .i64 x275002_2, .int .i64 x275003_2, .int .i64 x275004_2]) ?_ 0 _ rfl; (with_reducible repeat (first | refine blk_drewN ?_ _ | refine blk_drew ?_ | refine blk_alloc ?_ _)); exact BK274.out⟩, ⟨by repeat (first | (with_reducible first | exact HB.out | apply below_alloc | apply pw_below_drewN | apply below_drew1 | refine below_set ?_ GE273.out | refine below_set ?_ GE274.out | refine below_set ?_ GE286.out) | exact HB.out)⟩⟩
             ·
              rw [if_neg c64] at H
              have c64b0 : (t281 == x275001_2) = false := beq_eq_false_iff_ne.mpr c64
              have c64b1 : (t281 != x275001_2) = true := bne_iff_ne.mpr c64
              by_cases c70 : t281 = (wrap64 (x275001_2 + 1))
              ·
               rw [if_pos c70] at H
               have c70b0 : (t281 == (wrap64 (x275001_2 + 1))) = true := beq_iff_eq.mpr c70
               have c70b1 : (t281 != (wrap64 (x275001_2 + 1))) = false := bne_eq_false_iff_eq.mpr c70
               clear c70
               have H' := Aside0.mk H
               clear H
               have hnb71 := NB286_273.out
               have hnc71 := NB273_286.out
               have hnb72 := NB286_274.out
               have hnc72 := NB274_286.out
               have hcz73_0 : wc.cell? ⟨gb286, 0, none⟩ = some (.int .u8 t280) := (blk_cell BK286.out 0).trans rfl
               have hcz73_1 : wc.cell? ⟨gb286, 1, none⟩ = some (.int .i64 t281) := (blk_cell BK286.out 1).trans rfl
               have hcz73_2 : wc.cell? ⟨gb286, 2, none⟩ = some (.int .i64 t282) := (blk_cell BK286.out 2).trans rfl
               have hcz73_3 : wc.cell? ⟨gb286, 3, none⟩ = some (.int .i64 t283) := (blk_cell BK286.out 3).trans rfl
               have hcz73_4 : wc.cell? ⟨gb286, 4, none⟩ = some (.int .i64 t284) := (blk_cell BK286.out 4).trans rfl
               have hfz73_0 := blk_frozen BK286.out 0
               have hfz73_1 := blk_frozen BK286.out 1
               have hfz73_2 := blk_frozen BK286.out 2
               have hfz73_3 := blk_frozen BK286.out 3
               have hfz73_4 := blk_frozen BK286.out 4
               have hnb74 := NB274_273.out
               have hnc74 := NB273_274.out
               have hcz75_0 : wc.cell? ⟨gb274, 0, none⟩ = some (.int .u8 x275000_2) := (blk_cell BK274.out 0).trans rfl
               have hcz75_1 : wc.cell? ⟨gb274, 1, none⟩ = some (.int .i64 x275001_2) := (blk_cell BK274.out 1).trans rfl
               have hcz75_2 : wc.cell? ⟨gb274, 2, none⟩ = some (.int .i64 x275002_2) := (blk_cell BK274.out 2).trans rfl
               have hcz75_3 : wc.cell? ⟨gb274, 3, none⟩ = some (.int .i64 x275003_2) := (blk_cell BK274.out 3).trans rfl
               have hcz75_4 : wc.cell? ⟨gb274, 4, none⟩ = some (.int .i64 x275004_2) := (blk_cell BK274.out 4).trans rfl
               have hfz75_0 := blk_frozen BK274.out 0
               have hfz75_1 := blk_frozen BK274.out 1
               have hfz75_2 := blk_frozen BK274.out 2
               have hfz75_3 := blk_frozen BK274.out 3
               have hfz75_4 := blk_frozen BK274.out 4
               go_wp2
               go_roundg kj31
               case measure => have := HJ4.out; have := HK2.out; have := HJ31.out; omega
               case rel => exact ⟨(wrap64 (x8_2 + 1)), (wrap64 (x10_2 + 1)), (t280), (t281), (t282), (t283), (t284), (by first | rfl | (simp; done) | (simp [*]; done)), (by first | rfl | (simp; done) | (simp [*]; done)), H', ⟨by have := HJ4.out; have := HK2.out; have := HJ31.out; omega⟩, ⟨by (with_reducible repeat (first | refine blk_drewN ?_ _ | refine blk_drew ?_ | refine blk_alloc ?_ _)); refine blk_far ?_ NB273_274.out _; (with_reducible repeat (first | refine blk_drewN ?_ _ | refine blk_drew ?_ | refine blk_alloc ?_ _)); refine blk_far ?_ NB273_274.out _; (with_reducible repeat (first | refine blk_drewN ?_ _ | refine blk_drew ?_ | refine blk_alloc ?_ _)); refine blk_far ?_ NB273_274.out _; (with_reducible repeat (first | refine blk_drewN ?_ _ | refine blk_drew ?_ | refine blk_alloc ?_ _)); refine blk_far ?_ NB273_274.out _; (with_reducible repeat (first | refine blk_drewN ?_ _ | refine blk_drew ?_ | refine blk_alloc ?_ _)); refine blk_far ?_ NB273_274.out _; (with_reducible repeat (first | refine blk_drewN ?_ _ | refine blk_drew ?_ | refine blk_alloc ?_ _)); exact BK273.out⟩, ⟨by (with_reducible repeat (first | refine blk_drewN ?_ _ | refine blk_drew ?_ | refine blk_alloc ?_ _)); refine blk_put (cs := #[.int .u8 t280, .int .i64 t281, .int .i64 t282, .int .i64 t283, .int .i64 x275004_2]) ?_ 4 _ rfl; (with_reducible repeat (first | refine blk_drewN ?_ _ | refine blk_drew ?_ | refine blk_alloc ?_ _)); refine blk_put (cs := #[.int .u8 t280, .int .i64 t281, .int .i64 t282, .int .i64 x275003_2, .int .i64 x275004_2]) ?_ 3 _ rfl; (with_reducible repeat (first | refine blk_drewN ?_ _ | refine blk_drew ?_ | refine blk_alloc ?_ _)); refine blk_put (cs := #[.int .u8 t280, .int .i64 t281, .int .i64 x275002_2, .int .i64 x275003_2, .int .i64 x275004_2]) ?_ 2 _ rfl; (with_reducible repeat (first | refine blk_drewN ?_ _ | refine blk_drew ?_ | refine blk_alloc ?_ _)); refine blk_put (cs := #[.int .u8 t280, .int .i64 x275001_2, .int .i64 x275002_2, .int .i64 x275003_2, .int .i64 x275004_2]) ?_ 1 _ rfl; (with_reducible repeat (first | refine blk_drewN ?_ _ | refine blk_drew ?_ | refine blk_alloc ?_ _)); refine blk_put (cs := #[.int .u8 x275000_2, .int .i64 x275001_2, .int .i64 x275002_2, .int .i64 x275003_2, .int .i64 x275004_2]) ?_ 0 _ rfl; (with_reducible repeat (first | refine blk_drewN ?_ _ | refine blk_drew ?_ | refine blk_alloc ?_ _)); exact BK274.out⟩, ⟨by repeat (first | (with_reducible first | exact HB.out | apply below_alloc | apply pw_below_drewN | apply below_drew1 | refine below_set ?_ GE273.out | refine below_set ?_ GE274.out | refine below_set ?_ GE286.out) | exact HB.out)⟩⟩
              ·
               rw [if_neg c70] at H
               have c70b0 : (t281 == (wrap64 (x275001_2 + 1))) = false := beq_eq_false_iff_ne.mpr c70
               have c70b1 : (t281 != (wrap64 (x275001_2 + 1))) = true := bne_iff_ne.mpr c70
               exact absurd ((Option.some.inj H).trans hr) (by decide)
            ·
             rw [if_neg c63] at H
             have c63b0 : ((Int.tmod ((rd_T37 l2 x10_2).f0) 8) == 1) = false := beq_eq_false_iff_ne.mpr c63
             have c63b1 : ((Int.tmod ((rd_T37 l2 x10_2).f0) 8) != 1) = true := bne_iff_ne.mpr c63
             by_cases c81 : t281 = x275001_2
             ·
              rw [if_pos c81] at H
              have c81b0 : (t281 == x275001_2) = true := beq_iff_eq.mpr c81
              have c81b1 : (t281 != x275001_2) = false := bne_eq_false_iff_eq.mpr c81
              clear c81
              have H' := Aside0.mk H
              clear H
              have hnb82 := NB286_273.out
              have hnc82 := NB273_286.out
              have hnb83 := NB286_274.out
              have hnc83 := NB274_286.out
              have hcz84_0 : wc.cell? ⟨gb286, 0, none⟩ = some (.int .u8 t280) := (blk_cell BK286.out 0).trans rfl
              have hcz84_1 : wc.cell? ⟨gb286, 1, none⟩ = some (.int .i64 t281) := (blk_cell BK286.out 1).trans rfl
              have hcz84_2 : wc.cell? ⟨gb286, 2, none⟩ = some (.int .i64 t282) := (blk_cell BK286.out 2).trans rfl
              have hcz84_3 : wc.cell? ⟨gb286, 3, none⟩ = some (.int .i64 t283) := (blk_cell BK286.out 3).trans rfl
              have hcz84_4 : wc.cell? ⟨gb286, 4, none⟩ = some (.int .i64 t284) := (blk_cell BK286.out 4).trans rfl
              have hfz84_0 := blk_frozen BK286.out 0
              have hfz84_1 := blk_frozen BK286.out 1
              have hfz84_2 := blk_frozen BK286.out 2
              have hfz84_3 := blk_frozen BK286.out 3
              have hfz84_4 := blk_frozen BK286.out 4
              have hnb85 := NB274_273.out
              have hnc85 := NB273_274.out
              have hcz86_0 : wc.cell? ⟨gb274, 0, none⟩ = some (.int .u8 x275000_2) := (blk_cell BK274.out 0).trans rfl
              have hcz86_1 : wc.cell? ⟨gb274, 1, none⟩ = some (.int .i64 x275001_2) := (blk_cell BK274.out 1).trans rfl
              have hcz86_2 : wc.cell? ⟨gb274, 2, none⟩ = some (.int .i64 x275002_2) := (blk_cell BK274.out 2).trans rfl
              have hcz86_3 : wc.cell? ⟨gb274, 3, none⟩ = some (.int .i64 x275003_2) := (blk_cell BK274.out 3).trans rfl
              have hcz86_4 : wc.cell? ⟨gb274, 4, none⟩ = some (.int .i64 x275004_2) := (blk_cell BK274.out 4).trans rfl
              have hfz86_0 := blk_frozen BK274.out 0
              have hfz86_1 := blk_frozen BK274.out 1
              have hfz86_2 := blk_frozen BK274.out 2
              have hfz86_3 := blk_frozen BK274.out 3
              have hfz86_4 := blk_frozen BK274.out 4
              go_wp2
              go_roundg kj31
              case measure => have := HJ4.out; have := HK2.out; have := HJ31.out; omega
              case rel => exact ⟨(x8_2), (wrap64 (x10_2 + 1)), (t280), (t281), (t282), (t283), (t284), (by first | rfl | (simp; done) | (simp [*]; done)), (by first | rfl | (simp; done) | (simp [*]; done)), H', ⟨by have := HJ4.out; have := HK2.out; have := HJ31.out; omega⟩, ⟨by (with_reducible repeat (first | refine blk_drewN ?_ _ | refine blk_drew ?_ | refine blk_alloc ?_ _)); refine blk_far ?_ NB273_274.out _; (with_reducible repeat (first | refine blk_drewN ?_ _ | refine blk_drew ?_ | refine blk_alloc ?_ _)); refine blk_far ?_ NB273_274.out _; (with_reducible repeat (first | refine blk_drewN ?_ _ | refine blk_drew ?_ | refine blk_alloc ?_ _)); refine blk_far ?_ NB273_274.out _; (with_reducible repeat (first | refine blk_drewN ?_ _ | refine blk_drew ?_ | refine blk_alloc ?_ _)); refine blk_far ?_ NB273_274.out _; (with_reducible repeat (first | refine blk_drewN ?_ _ | refine blk_drew ?_ | refine blk_alloc ?_ _)); refine blk_far ?_ NB273_274.out _; (with_reducible repeat (first | refine blk_drewN ?_ _ | refine blk_drew ?_ | refine blk_alloc ?_ _)); exact BK273.out⟩, ⟨by (with_reducible repeat (first | refine blk_drewN ?_ _ | refine blk_drew ?_ | refine blk_alloc ?_ _)); refine blk_put (cs := #[.int .u8 t280, .int .i64 t281, .int .i64 t282, .int .i64 t283, .int .i64 x275004_2]) ?_ 4 _ rfl; (with_reducible repeat (first | refine blk_drewN ?_ _ | refine blk_drew ?_ | refine blk_alloc ?_ _)); refine blk_put (cs := #[.int .u8 t280, .int .i64 t281, .int .i64 t282, .int .i64 x275003_2, .int .i64 x275004_2]) ?_ 3 _ rfl; (with_reducible repeat (first | refine blk_drewN ?_ _ | refine blk_drew ?_ | refine blk_alloc ?_ _)); refine blk_put (cs := #[.int .u8 t280, .int .i64 t281, .int .i64 x275002_2, .int .i64 x275003_2, .int .i64 x275004_2]) ?_ 2 _ rfl; (with_reducible repeat (first | refine blk_drewN ?_ _ | refine blk_drew ?_ | refine blk_alloc ?_ _)); refine blk_put (cs := #[.int .u8 t280, .int .i64 x275001_2, .int .i64 x275002_2, .int .i64 x275003_2, .int .i64 x275004_2]) ?_ 1 _ rfl; (with_reducible repeat (first | refine blk_drewN ?_ _ | refine blk_drew ?_ | refine blk_alloc ?_ _)); refine blk_put (cs := #[.int .u8 x275000_2, .int .i64 x275001_2, .int .i64 x275002_2, .int .i64 x275003_2, .int .i64 x275004_2]) ?_ 0 _ rfl; (with_reducible repeat (first | refine blk_drewN ?_ _ | refine blk_drew ?_ | refine blk_alloc ?_ _)); exact BK274.out⟩, ⟨by repeat (first | (with_reducible first | exact HB.out | apply below_alloc | apply pw_below_drewN | apply below_drew1 | refine below_set ?_ GE273.out | refine below_set ?_ GE274.out | refine below_set ?_ GE286.out) | exact HB.out)⟩⟩
             ·
              rw [if_neg c81] at H
              have c81b0 : (t281 == x275001_2) = false := beq_eq_false_iff_ne.mpr c81
              have c81b1 : (t281 != x275001_2) = true := bne_iff_ne.mpr c81
              exact absurd ((Option.some.inj H).trans hr) (by decide)
        ·
         replace c31 := Bool.eq_false_iff.mpr c31
         subst c31
         have H1 : (millhandlaw24_TaskRuns.l0 k2 l2 x8_2 a1_1 (wrap64 (x10_2 + 1)) l0_0 a0_1 a0_2 x275000_2 x275001_2 x275002_2 x275003_2 x275004_2) = some r := by rw [if_neg (show ¬ (false = true) by decide)] at H; exact H
         clear H
         have H := H1
         clear H1
         have H' := Aside0.mk H
         clear H
         try go_wp2
         obtain ⟨BK273, BK274, HB⟩ := And.intro (Aside0.mk (blk_drew BK273.out)) (And.intro (Aside0.mk (blk_drew BK274.out)) (Aside0.mk (below_drew1 HB.out)))
         have p277 : 0 ≤ (x10_2 : Int) := of_decide_eq_true (by first | (with_reducible assumption) | assumption)
         have q277 : x10_2 < (l2.length : Int) := of_decide_eq_true (by first | (with_reducible assumption) | assumption)
         obtain ⟨ad277, e277, hx277_0, hx277_1, hx277_2⟩ := at_T37 HR2.out x10_2 p277 q277
         have hw277_2 := hx277_2
         have hw277_1 := hx277_1
         have hw277_0 := hx277_0
         cases e277
         replace hx277_0 := cl_ HB.out hx277_0
         replace hx277_1 := cl_ HB.out hx277_1
         replace hx277_2 := cl_ HB.out hx277_2
         replace p277 := eq_true p277
         replace q277 := eq_true q277
         have p278 : 0 ≤ (x10_2 : Int) := of_decide_eq_true (by first | (with_reducible assumption) | assumption)
         have q278 : x10_2 < (l2.length : Int) := of_decide_eq_true (by first | (with_reducible assumption) | assumption)
         obtain ⟨ad278, e278, hx278_0, hx278_1, hx278_2⟩ := at_T37 HR2.out x10_2 p278 q278
         have hw278_2 := hx278_2
         have hw278_1 := hx278_1
         have hw278_0 := hx278_0
         obtain rfl : ad277 = ad278 := (by injection e278)
         replace hx278_0 := cl_ HB.out hx278_0
         replace hx278_1 := cl_ HB.out hx278_1
         replace hx278_2 := cl_ HB.out hx278_2
         replace p278 := eq_true p278
         replace q278 := eq_true q278
         have p279 : 0 ≤ (x10_2 : Int) := of_decide_eq_true (by first | (with_reducible assumption) | assumption)
         have q279 : x10_2 < (l2.length : Int) := of_decide_eq_true (by first | (with_reducible assumption) | assumption)
         obtain ⟨ad279, e279, hx279_0, hx279_1, hx279_2⟩ := at_T37 HR2.out x10_2 p279 q279
         have hw279_2 := hx279_2
         have hw279_1 := hx279_1
         have hw279_0 := hx279_0
         obtain rfl : ad277 = ad279 := (by injection e279)
         replace hx279_0 := cl_ HB.out hx279_0
         replace hx279_1 := cl_ HB.out hx279_1
         replace hx279_2 := cl_ HB.out hx279_2
         replace p279 := eq_true p279
         replace q279 := eq_true q279
         refine start_ (n := 24) (S := fun w' => w'.cell? ⟨gb273, 0, none⟩ = some (.slice A0_0 l0_0.length c0_0) ∧ w'.cell? ⟨gb273, 1, none⟩ = some (.int .i64 a0_1) ∧ w'.cell? ⟨gb273, 2, none⟩ = some (.int .i64 a0_2) ∧ w'.cell? ⟨gb274, 0, none⟩ = some (.int .u8 x275000_2) ∧ w'.cell? ⟨gb274, 1, none⟩ = some (.int .i64 x275001_2) ∧ w'.cell? ⟨gb274, 2, none⟩ = some (.int .i64 x275002_2) ∧ w'.cell? ⟨gb274, 3, none⟩ = some (.int .i64 x275003_2) ∧ w'.cell? ⟨gb274, 4, none⟩ = some (.int .i64 x275004_2) ∧ w'.cell? (ad277.add ((x10_2).toNat * 3)) = some (.int .u8 ((rd_T37 l2 x10_2).f0)) ∧ w'.cell? ⟨(ad277.add ((x10_2).toNat * 3)).block, (ad277.add ((x10_2).toNat * 3)).off + 1, none⟩ = some (.int .i64 ((rd_T37 l2 x10_2).f1)) ∧ w'.cell? ⟨(ad277.add ((x10_2).toNat * 3)).block, (ad277.add ((x10_2).toNat * 3)).off + 2, none⟩ = some (.int .i64 ((rd_T37 l2 x10_2).f2)) ∧ w'.cell? (ad277.add ((x10_2).toNat * 3)) = some (.int .u8 ((rd_T37 l2 x10_2).f0)) ∧ w'.cell? ⟨(ad277.add ((x10_2).toNat * 3)).block, (ad277.add ((x10_2).toNat * 3)).off + 1, none⟩ = some (.int .i64 ((rd_T37 l2 x10_2).f1)) ∧ w'.cell? ⟨(ad277.add ((x10_2).toNat * 3)).block, (ad277.add ((x10_2).toNat * 3)).off + 2, none⟩ = some (.int .i64 ((rd_T37 l2 x10_2).f2)) ∧ w'.cell? (ad277.add ((x10_2).toNat * 3)) = some (.int .u8 ((rd_T37 l2 x10_2).f0)) ∧ w'.cell? ⟨(ad277.add ((x10_2).toNat * 3)).block, (ad277.add ((x10_2).toNat * 3)).off + 1, none⟩ = some (.int .i64 ((rd_T37 l2 x10_2).f1)) ∧ w'.cell? ⟨(ad277.add ((x10_2).toNat * 3)).block, (ad277.add ((x10_2).toNat * 3)).off + 2, none⟩ = some (.int .i64 ((rd_T37 l2 x10_2).f2))) (ds := []) (b_ 24 0) (by kernel_rfl) rfl rfl ⟨(blk_cell BK273.out 0).trans rfl, (blk_cell BK273.out 1).trans rfl, (blk_cell BK273.out 2).trans rfl, (blk_cell BK274.out 0).trans rfl, (blk_cell BK274.out 1).trans rfl, (blk_cell BK274.out 2).trans rfl, (blk_cell BK274.out 3).trans rfl, (blk_cell BK274.out 4).trans rfl, (cl_ HB.out hw277_0), (cl_ HB.out hw277_1), (cl_ HB.out hw277_2), (cl_ HB.out hw278_0), (cl_ HB.out hw278_1), (cl_ HB.out hw278_2), (cl_ HB.out hw279_0), (cl_ HB.out hw279_1), (cl_ HB.out hw279_2)⟩ (fun hHeld => ?_); refine with_tabW millhandlaw24_TaskRuns.tab9 millhandlaw24_TaskRuns.bits9 (fun HT_ HW_ => ?_)
         generalize wr.drew = w92 at BK273 BK274 HB hx277_0 hx277_1 hx277_2 hx278_0 hx278_1 hx278_2 hx279_0 hx279_1 hx279_2 hHeld ⊢
         refine pA_ 2 46 ?_ (b_ 24 4) (any_of HT_.out (by kernel_rfl)) rfl rfl (fun _ _ _ h => h) (by rfl) ?_ ?_ ?_ ?_
         rotate_left
         ·
          intro w'
          go_simp
          with_reducible rfl
         rotate_left
         ·
          simp only [Act.put, sa_, s0_, s1_, i64_w, i32_w]
          rfl
         refine pA_ 3 47 ?_ (b_ 24 12) (any_of HT_.out (by kernel_rfl)) rfl rfl (fun _ _ _ h => h) (by rfl) ?_ ?_ ?_ ?_
         rotate_left
         ·
          intro w'
          go_simp
          with_reducible rfl
         rotate_left
         ·
          simp only [Act.put, sa_, s0_, s1_, i64_w, i32_w]
          rfl
         refine pA_ 4 48 ?_ (b_ 24 28) (any_of HT_.out (by kernel_rfl)) rfl rfl (fun _ _ _ h => h) (by rfl) ?_ ?_ ?_ ?_
         rotate_left
         ·
          intro w'
          go_simp
          with_reducible rfl
         rotate_left
         ·
          simp only [Act.put, sa_, s0_, s1_, i64_w, i32_w]
          rfl
         refine pA_ 5 49 ?_ (b_ 24 60) (any_of HT_.out (by kernel_rfl)) rfl rfl (fun _ _ _ h => h) (by rfl) ?_ ?_ ?_ ?_
         rotate_left
         ·
          intro w'
          go_simp
          with_reducible rfl
         rotate_left
         ·
          simp only [Act.put, sa_, s0_, s1_, i64_w, i32_w]
          rfl
         refine pA_ 7 51 ?_ (b_ 24 188) (any_of HT_.out (by kernel_rfl)) rfl rfl (fun _ _ _ h => h) (by rfl) ?_ ?_ ?_ ?_
         rotate_left
         ·
          intro w'
          go_simp
          with_reducible rfl
         rotate_left
         ·
          simp only [Act.put, sa_, s0_, s1_, i64_w, i32_w]
          rfl
         refine pA_ 8 52 ?_ (b_ 24 444) (any_of HT_.out (by kernel_rfl)) rfl rfl (fun _ _ _ h => h) (by rfl) ?_ ?_ ?_ ?_
         rotate_left
         ·
          intro w'
          go_simp
          with_reducible rfl
         rotate_left
         ·
          simp only [Act.put, sa_, s0_, s1_, i64_w, i32_w]
          rfl
         refine pA_ 9 53 ?_ (b_ 24 956) (any_of HT_.out (by kernel_rfl)) rfl rfl (fun _ _ _ h => h) (by rfl) ?_ ?_ ?_ ?_
         rotate_left
         ·
          intro w'
          go_simp
          with_reducible rfl
         rotate_left
         ·
          simp only [Act.put, sa_, s0_, s1_, i64_w, i32_w]
          rfl
         refine pA_ 10 54 ?_ (b_ 24 1980) (any_of HT_.out (by kernel_rfl)) rfl rfl (fun _ _ _ h => h) (by rfl) ?_ ?_ ?_ ?_
         rotate_left
         ·
          intro w'
          go_simp
          with_reducible rfl
         rotate_left
         ·
          simp only [Act.put, sa_, s0_, s1_, i64_w, i32_w]
          rfl
         refine pA_ 12 56 ?_ (b_ 24 6076) (any_of HT_.out (by kernel_rfl)) rfl rfl (fun _ _ _ h => h) (by rfl) ?_ ?_ ?_ ?_
         rotate_left
         ·
          intro w'
          go_simp
          with_reducible rfl
         rotate_left
         ·
          simp only [Act.put, sa_, s0_, s1_, i64_w, i32_w]
          rfl
         refine pA_ 13 57 ?_ (b_ 24 14268) (any_of HT_.out (by kernel_rfl)) rfl rfl (fun _ _ _ h => h) (by rfl) ?_ ?_ ?_ ?_
         rotate_left
         ·
          intro w'
          go_simp
          with_reducible rfl
         rotate_left
         ·
          simp only [Act.put, sa_, s0_, s1_, i64_w, i32_w]
          rfl
         refine pA_ 14 58 ?_ (b_ 24 30652) (any_of HT_.out (by kernel_rfl)) rfl rfl (fun _ _ _ h => h) (by rfl) ?_ ?_ ?_ ?_
         rotate_left
         ·
          intro w'
          go_simp
          with_reducible rfl
         rotate_left
         ·
          simp only [Act.put, sa_, s0_, s1_, i64_w, i32_w]
          rfl
         refine pA_ 15 59 ?_ (b_ 24 63420) (any_of HT_.out (by kernel_rfl)) rfl rfl (fun _ _ _ h => h) (by rfl) ?_ ?_ ?_ ?_
         rotate_left
         ·
          intro w'
          go_simp
          with_reducible rfl
         rotate_left
         ·
          simp only [Act.put, sa_, s0_, s1_, i64_w, i32_w]
          rfl
         refine tA_ 0 44 ?_ (b_ 24 63421) (take_ofW HT_.out HW_.out (by kernel_rfl)) rfl rfl (fun _ _ _ h => h) (by rfl) ?_ hHeld ?_ ?_ ?_
         rotate_left
         ·
          rintro w' ⟨s0, s1, s2, s3, s4, s5, s6, s7, s8, s9, s10, s11, s12, s13, s14, s15, s16⟩
          go_simp
          with_reducible rfl
         rotate_left
         ·
          simp only [Act.put, sa_, s0_, s1_, i64_w, i32_w]
          rfl
         refine tA_ 1 45 ?_ (b_ 24 63423) (take_ofW HT_.out HW_.out (by kernel_rfl)) rfl rfl (fun _ _ _ h => h) (by rfl) ?_ hHeld ?_ ?_ ?_
         rotate_left
         ·
          rintro w' ⟨s0, s1, s2, s3, s4, s5, s6, s7, s8, s9, s10, s11, s12, s13, s14, s15, s16⟩
          go_simp
          with_reducible rfl
         rotate_left
         ·
          simp only [Act.put, sa_, s0_, s1_, i64_w, i32_w]
          rfl
         refine tA_ 6 50 ?_ (b_ 24 63487) (take_ofW HT_.out HW_.out (by kernel_rfl)) rfl rfl (fun _ _ _ h => h) (by rfl) ?_ hHeld ?_ ?_ ?_
         rotate_left
         ·
          rintro w' ⟨s0, s1, s2, s3, s4, s5, s6, s7, s8, s9, s10, s11, s12, s13, s14, s15, s16⟩
          go_simp
          with_reducible rfl
         rotate_left
         ·
          simp only [Act.put, sa_, s0_, s1_, i64_w, i32_w]
          rfl
         refine tA_ 11 55 ?_ (b_ 24 65535) (take_ofW HT_.out HW_.out (by kernel_rfl)) rfl rfl (fun _ _ _ h => h) (by rfl) ?_ hHeld ?_ ?_ ?_
         rotate_left
         ·
          rintro w' ⟨s0, s1, s2, s3, s4, s5, s6, s7, s8, s9, s10, s11, s12, s13, s14, s15, s16⟩
          go_simp
          with_reducible rfl
         rotate_left
         ·
          simp only [Act.put, sa_, s0_, s1_, i64_w, i32_w]
          rfl
         refine tA_ 16 60 ?_ (b_ 24 131071) (take_ofW HT_.out HW_.out (by kernel_rfl)) rfl rfl (fun _ _ _ h => h) (by rfl) ?_ hHeld ?_ ?_ ?_
         rotate_left
         ·
          rintro w' ⟨s0, s1, s2, s3, s4, s5, s6, s7, s8, s9, s10, s11, s12, s13, s14, s15, s16⟩
          go_simp
          with_reducible rfl
         rotate_left
         ·
          simp only [Act.put, sa_, s0_, s1_, i64_w, i32_w]
          rfl
         refine join_ (σ := Nat) 2 (b_ 24 4194303) (fun s_ => [(61, .tuple #[.agg #[.int .u8 t280, .int .i64 t281, .int .i64 t282, .int .i64 t283, .int .i64 t284], .bool false]), (11, .pointer (some ⟨s_, 0, none⟩)), (43, .tuple #[.agg #[.int .u8 t280, .int .i64 t281, .int .i64 t282, .int .i64 t283, .int .i64 t284], .bool false]), (62, .agg #[.int .u8 t280, .int .i64 t281, .int .i64 t282, .int .i64 t283, .int .i64 t284]), (63, .bool false)]) (fun s_ w' => (w'.cell? ⟨gb273, 0, none⟩ = some (.slice A0_0 l0_0.length c0_0) ∧ w'.cell? ⟨gb273, 1, none⟩ = some (.int .i64 a0_1) ∧ w'.cell? ⟨gb273, 2, none⟩ = some (.int .i64 a0_2) ∧ w'.cell? ⟨gb274, 0, none⟩ = some (.int .u8 x275000_2) ∧ w'.cell? ⟨gb274, 1, none⟩ = some (.int .i64 x275001_2) ∧ w'.cell? ⟨gb274, 2, none⟩ = some (.int .i64 x275002_2) ∧ w'.cell? ⟨gb274, 3, none⟩ = some (.int .i64 x275003_2) ∧ w'.cell? ⟨gb274, 4, none⟩ = some (.int .i64 x275004_2) ∧ w'.cell? (ad277.add ((x10_2).toNat * 3)) = some (.int .u8 ((rd_T37 l2 x10_2).f0)) ∧ w'.cell? ⟨(ad277.add ((x10_2).toNat * 3)).block, (ad277.add ((x10_2).toNat * 3)).off + 1, none⟩ = some (.int .i64 ((rd_T37 l2 x10_2).f1)) ∧ w'.cell? ⟨(ad277.add ((x10_2).toNat * 3)).block, (ad277.add ((x10_2).toNat * 3)).off + 2, none⟩ = some (.int .i64 ((rd_T37 l2 x10_2).f2)) ∧ w'.cell? (ad277.add ((x10_2).toNat * 3)) = some (.int .u8 ((rd_T37 l2 x10_2).f0)) ∧ w'.cell? ⟨(ad277.add ((x10_2).toNat * 3)).block, (ad277.add ((x10_2).toNat * 3)).off + 1, none⟩ = some (.int .i64 ((rd_T37 l2 x10_2).f1)) ∧ w'.cell? ⟨(ad277.add ((x10_2).toNat * 3)).block, (ad277.add ((x10_2).toNat * 3)).off + 2, none⟩ = some (.int .i64 ((rd_T37 l2 x10_2).f2)) ∧ w'.cell? (ad277.add ((x10_2).toNat * 3)) = some (.int .u8 ((rd_T37 l2 x10_2).f0)) ∧ w'.cell? ⟨(ad277.add ((x10_2).toNat * 3)).block, (ad277.add ((x10_2).toNat * 3)).off + 1, none⟩ = some (.int .i64 ((rd_T37 l2 x10_2).f1)) ∧ w'.cell? ⟨(ad277.add ((x10_2).toNat * 3)).block, (ad277.add ((x10_2).toNat * 3)).off + 2, none⟩ = some (.int .i64 ((rd_T37 l2 x10_2).f2))) ∧ (w'.heap[gb273]? = some (.cells #[.slice A0_0 l0_0.length c0_0, .int .i64 a0_1, .int .i64 a0_2] 24 (0, 0))) ∧ (w'.heap[gb274]? = some (.cells #[.int .u8 x275000_2, .int .i64 x275001_2, .int .i64 x275002_2, .int .i64 x275003_2, .int .i64 x275004_2] 31 (0, 0))) ∧ (w'.heap[s_]? = some (.cells #[.int .u8 0, .int .i64 0, .int .i64 0, .int .i64 0, .int .i64 0] 31 (0, 0))) ∧ (w.heap.size ≤ s_) ∧ (w.heap.size ≤ s_) ∧ (gb273 ≠ s_) ∧ (s_ ≠ gb273) ∧ (gb274 ≠ s_) ∧ (s_ ≠ gb274) ∧ (Below w.heap.size w w')) ?_ ?_
         rotate_left
         ·
          intro hCont
          refine two_ (i := 17) (j := 21) (Ni := some 61) (Nj := some 11) (b_ 24 262143) (b_ 24 2228223) rfl rfl rfl rfl (two_of HT_.out (by kernel_rfl)) (by decide) (by decide) (fun K hK => ?_) (fun K hK => ?_)
          ·
           skip
           refine goes_ Try.func10 (by kernel_rfl) rfl #[.agg #[.slice A0_0 l0_0.length c0_0, .int .i64 a0_1, .int .i64 a0_2], .agg #[.int .u8 x275000_2, .int .i64 x275001_2, .int .i64 x275002_2, .int .i64 x275003_2, .int .i64 x275004_2], .int .u8 ((rd_T37 l2 x10_2).f0), .int .i64 ((rd_T37 l2 x10_2).f1), .int .i64 ((rd_T37 l2 x10_2).f2)] (by rfl) rfl rfl (by (try simp only [List.map_toArray, List.map_cons, List.map_nil]); first | done | rfl | (simp only [List.length_drop, List.length_take]; rfl)) ?_
           with_reducible refine (millhandlaw24_step.calls k2 _ _ l0_0 a0_1 a0_2 x275000_2 x275001_2 x275002_2 x275003_2 x275004_2 ((rd_T37 l2 x10_2).f0) ((rd_T37 l2 x10_2).f1) ((rd_T37 l2 x10_2).f2) t280 t281 t282 t283 t284 false _ ?side1 ?side2 A30.out).mono ?_
           (case side1 => repeat (first | exact (Kd.C_below HR0_0.out HB.out) | (with_reducible refine Kd.C_alloc ?_ _) | (with_reducible refine Kd.C_drewN ?_ _) | (with_reducible refine Kd.C_drew ?_)))
           (case side2 => exact HC0_0.out)
           rintro e w93 ⟨rfl, hb⟩
           refine ⟨_, rfl, ?_⟩
           obtain ⟨BK273, BK274, HB⟩ := And.intro (Aside0.mk (blk_below (g := gb273) (o := .cells #[.slice A0_0 l0_0.length c0_0, .int .i64 a0_1, .int .i64 a0_2] 24 (0, 0)) (by (with_reducible repeat (first | refine blk_drewN ?_ _ | refine blk_drew ?_ | refine blk_alloc ?_ _)); exact BK273.out) hb)) (And.intro (Aside0.mk (blk_below (g := gb274) (o := .cells #[.int .u8 x275000_2, .int .i64 x275001_2, .int .i64 x275002_2, .int .i64 x275003_2, .int .i64 x275004_2] 31 (0, 0)) (by (with_reducible repeat (first | refine blk_drewN ?_ _ | refine blk_drew ?_ | refine blk_alloc ?_ _)); exact BK274.out) hb)) (Aside0.mk (below_step (by repeat (first | (with_reducible first | exact HB.out | apply below_alloc | apply pw_below_drewN | apply below_drew1 | refine below_set ?_ GE273.out | refine below_set ?_ GE274.out) | exact HB.out)) hb)))
           (try clear hb)
           (try clear hb2)
           (try clear hk)
           (try clear hi)
           refine hK.out _ _ ⟨(blk_cell BK273.out 0).trans rfl, (blk_cell BK273.out 1).trans rfl, (blk_cell BK273.out 2).trans rfl, (blk_cell BK274.out 0).trans rfl, (blk_cell BK274.out 1).trans rfl, (blk_cell BK274.out 2).trans rfl, (blk_cell BK274.out 3).trans rfl, (blk_cell BK274.out 4).trans rfl, (cl_ HB.out hw277_0), (cl_ HB.out hw277_1), (cl_ HB.out hw277_2), (cl_ HB.out hw278_0), (cl_ HB.out hw278_1), (cl_ HB.out hw278_2), (cl_ HB.out hw279_0), (cl_ HB.out hw279_1), (cl_ HB.out hw279_2)⟩ (fun hHeld => ?_)
           clear hK K
           refine norm_ (a' := ?_) ?_ ?_
           rotate_left
           ·
            show Act.put _ (some 61) _ = _
            simp only [Act.put, sa_, s0_, s1_, i64_w, i32_w]
            rfl
           refine pA_ 18 43 ?_ (b_ 24 524287) (any_of HT_.out (by kernel_rfl)) rfl rfl (fun _ _ _ h => h) (by rfl) ?_ ?_ ?_ ?_
           rotate_left
           ·
            intro w'
            go_simp
            with_reducible rfl
           rotate_left
           ·
            simp only [Act.put, sa_, s0_, s1_, i64_w, i32_w]
            rfl
           refine pA_ 19 62 ?_ (b_ 24 1048575) (any_of HT_.out (by kernel_rfl)) rfl rfl (fun _ _ _ h => h) (by rfl) ?_ ?_ ?_ ?_
           rotate_left
           ·
            intro w'
            go_simp
            with_reducible rfl
           rotate_left
           ·
            simp only [Act.put, sa_, s0_, s1_, i64_w, i32_w]
            rfl
           refine pA_ 20 63 ?_ (b_ 24 2097151) (any_of HT_.out (by kernel_rfl)) rfl rfl (fun _ _ _ h => h) (by rfl) ?_ ?_ ?_ ?_
           rotate_left
           ·
            intro w'
            go_simp
            with_reducible rfl
           rotate_left
           ·
            simp only [Act.put, sa_, s0_, s1_, i64_w, i32_w]
            rfl
           refine one_ (i := 21) (N := some 11) (b_ 24 4194303) rfl rfl (one_of HT_.out (by kernel_rfl)) (by decide) (fun K hK => ?_)
           refine box_step ?hg (N := 11) ?hd (cs := #[.int .u8 0, .int .i64 0, .int .i64 0, .int .i64 0, .int .i64 0]) (t := 31) ?hr ?_; (case hd => rfl); (case hg => rfl); (case hr => first | (go_simp; done) | (go_simp; rfl))
           intro gb286 hg w94 hbox hb
           obtain ⟨BK273, BK274, HB, BK286, GW286, GE286, NB273_286, NB286_273, NB274_286, NB286_274⟩ := And.intro (Aside0.mk (blk_below (g := gb273) (o := .cells #[.slice A0_0 l0_0.length c0_0, .int .i64 a0_1, .int .i64 a0_2] 24 (0, 0)) (by (with_reducible repeat (first | refine blk_drewN ?_ _ | refine blk_drew ?_ | refine blk_alloc ?_ _)); exact BK273.out) hb)) (And.intro (Aside0.mk (blk_below (g := gb274) (o := .cells #[.int .u8 x275000_2, .int .i64 x275001_2, .int .i64 x275002_2, .int .i64 x275003_2, .int .i64 x275004_2] 31 (0, 0)) (by (with_reducible repeat (first | refine blk_drewN ?_ _ | refine blk_drew ?_ | refine blk_alloc ?_ _)); exact BK274.out) hb)) (And.intro (Aside0.mk (below_step (by repeat (first | (with_reducible first | exact HB.out | apply below_alloc | apply pw_below_drewN | apply below_drew1 | refine below_set ?_ GE273.out | refine below_set ?_ GE274.out) | exact HB.out)) hb)) (And.intro (Aside0.mk (hbox)) (And.intro (Aside0.mk ((by rw [hg]; exact (below_size (by repeat (first | (with_reducible first | exact HB.out | apply below_alloc | apply pw_below_drewN | apply below_drew1 | refine below_set ?_ GE273.out | refine below_set ?_ GE274.out) | exact HB.out))) : w.heap.size ≤ gb286))) (And.intro (Aside0.mk ((by rw [hg]; exact (below_size (by repeat (first | (with_reducible first | exact HB.out | apply below_alloc | apply pw_below_drewN | apply below_drew1 | refine below_set ?_ GE273.out | refine below_set ?_ GE274.out) | exact HB.out))) : w.heap.size ≤ gb286))) (And.intro (Aside0.mk ((by rw [hg]; exact Nat.ne_of_lt (blk_lt (g := gb273) (o := .cells #[.slice A0_0 l0_0.length c0_0, .int .i64 a0_1, .int .i64 a0_2] 24 (0, 0)) (by (with_reducible repeat (first | refine blk_drewN ?_ _ | refine blk_drew ?_ | refine blk_alloc ?_ _)); exact BK273.out)) : gb273 ≠ gb286))) (And.intro (Aside0.mk ((by rw [hg]; exact Nat.ne_of_gt (blk_lt (g := gb273) (o := .cells #[.slice A0_0 l0_0.length c0_0, .int .i64 a0_1, .int .i64 a0_2] 24 (0, 0)) (by (with_reducible repeat (first | refine blk_drewN ?_ _ | refine blk_drew ?_ | refine blk_alloc ?_ _)); exact BK273.out)) : gb286 ≠ gb273))) (And.intro (Aside0.mk ((by rw [hg]; exact Nat.ne_of_lt (blk_lt (g := gb274) (o := .cells #[.int .u8 x275000_2, .int .i64 x275001_2, .int .i64 x275002_2, .int .i64 x275003_2, .int .i64 x275004_2] 31 (0, 0)) (by (with_reducible repeat (first | refine blk_drewN ?_ _ | refine blk_drew ?_ | refine blk_alloc ?_ _)); exact BK274.out)) : gb274 ≠ gb286))) (Aside0.mk ((by rw [hg]; exact Nat.ne_of_gt (blk_lt (g := gb274) (o := .cells #[.int .u8 x275000_2, .int .i64 x275001_2, .int .i64 x275002_2, .int .i64 x275003_2, .int .i64 x275004_2] 31 (0, 0)) (by (with_reducible repeat (first | refine blk_drewN ?_ _ | refine blk_drew ?_ | refine blk_alloc ?_ _)); exact BK274.out)) : gb286 ≠ gb274)))))))))))
           clear hb hbox hg
           refine hK.out _ _ ⟨(blk_cell BK273.out 0).trans rfl, (blk_cell BK273.out 1).trans rfl, (blk_cell BK273.out 2).trans rfl, (blk_cell BK274.out 0).trans rfl, (blk_cell BK274.out 1).trans rfl, (blk_cell BK274.out 2).trans rfl, (blk_cell BK274.out 3).trans rfl, (blk_cell BK274.out 4).trans rfl, (cl_ HB.out hw277_0), (cl_ HB.out hw277_1), (cl_ HB.out hw277_2), (cl_ HB.out hw278_0), (cl_ HB.out hw278_1), (cl_ HB.out hw278_2), (cl_ HB.out hw279_0), (cl_ HB.out hw279_1), (cl_ HB.out hw279_2)⟩ (fun hHeld => ?_)
           clear hK K
           refine norm_ (a' := ?_) ?_ ?_
           rotate_left
           ·
            show Act.put _ (some 11) _ = _
            simp only [Act.put, sa_, s0_, s1_, i64_w, i32_w]
            rfl
           exact norm_ (by simp only [putAll, Act.put, sa_, s0_, s1_]) (hCont (gb286) _ ⟨hHeld, (by (with_reducible repeat (first | refine blk_drewN ?_ _ | refine blk_drew ?_ | refine blk_alloc ?_ _)); exact BK273.out), (by (with_reducible repeat (first | refine blk_drewN ?_ _ | refine blk_drew ?_ | refine blk_alloc ?_ _)); exact BK274.out), (by (with_reducible repeat (first | refine blk_drewN ?_ _ | refine blk_drew ?_ | refine blk_alloc ?_ _)); exact BK286.out), GW286.out, GE286.out, NB273_286.out, NB286_273.out, NB274_286.out, NB286_274.out, (by repeat (first | (with_reducible first | exact HB.out | apply below_alloc | apply pw_below_drewN | apply below_drew1 | refine below_set ?_ GE273.out | refine below_set ?_ GE274.out | refine below_set ?_ GE286.out) | exact HB.out))⟩)
          ·
           skip
           refine box_step ?hg (N := 11) ?hd (cs := #[.int .u8 0, .int .i64 0, .int .i64 0, .int .i64 0, .int .i64 0]) (t := 31) ?hr ?_; (case hd => rfl); (case hg => rfl); (case hr => first | (go_simp; done) | (go_simp; rfl))
           intro gb286 hg w93 hbox hb
           obtain ⟨BK273, BK274, HB, BK286, GW286, GE286, NB273_286, NB286_273, NB274_286, NB286_274⟩ := And.intro (Aside0.mk (blk_below (g := gb273) (o := .cells #[.slice A0_0 l0_0.length c0_0, .int .i64 a0_1, .int .i64 a0_2] 24 (0, 0)) (by (with_reducible repeat (first | refine blk_drewN ?_ _ | refine blk_drew ?_ | refine blk_alloc ?_ _)); exact BK273.out) hb)) (And.intro (Aside0.mk (blk_below (g := gb274) (o := .cells #[.int .u8 x275000_2, .int .i64 x275001_2, .int .i64 x275002_2, .int .i64 x275003_2, .int .i64 x275004_2] 31 (0, 0)) (by (with_reducible repeat (first | refine blk_drewN ?_ _ | refine blk_drew ?_ | refine blk_alloc ?_ _)); exact BK274.out) hb)) (And.intro (Aside0.mk (below_step (by repeat (first | (with_reducible first | exact HB.out | apply below_alloc | apply pw_below_drewN | apply below_drew1 | refine below_set ?_ GE273.out | refine below_set ?_ GE274.out) | exact HB.out)) hb)) (And.intro (Aside0.mk (hbox)) (And.intro (Aside0.mk ((by rw [hg]; exact (below_size (by repeat (first | (with_reducible first | exact HB.out | apply below_alloc | apply pw_below_drewN | apply below_drew1 | refine below_set ?_ GE273.out | refine below_set ?_ GE274.out) | exact HB.out))) : w.heap.size ≤ gb286))) (And.intro (Aside0.mk ((by rw [hg]; exact (below_size (by repeat (first | (with_reducible first | exact HB.out | apply below_alloc | apply pw_below_drewN | apply below_drew1 | refine below_set ?_ GE273.out | refine below_set ?_ GE274.out) | exact HB.out))) : w.heap.size ≤ gb286))) (And.intro (Aside0.mk ((by rw [hg]; exact Nat.ne_of_lt (blk_lt (g := gb273) (o := .cells #[.slice A0_0 l0_0.length c0_0, .int .i64 a0_1, .int .i64 a0_2] 24 (0, 0)) (by (with_reducible repeat (first | refine blk_drewN ?_ _ | refine blk_drew ?_ | refine blk_alloc ?_ _)); exact BK273.out)) : gb273 ≠ gb286))) (And.intro (Aside0.mk ((by rw [hg]; exact Nat.ne_of_gt (blk_lt (g := gb273) (o := .cells #[.slice A0_0 l0_0.length c0_0, .int .i64 a0_1, .int .i64 a0_2] 24 (0, 0)) (by (with_reducible repeat (first | refine blk_drewN ?_ _ | refine blk_drew ?_ | refine blk_alloc ?_ _)); exact BK273.out)) : gb286 ≠ gb273))) (And.intro (Aside0.mk ((by rw [hg]; exact Nat.ne_of_lt (blk_lt (g := gb274) (o := .cells #[.int .u8 x275000_2, .int .i64 x275001_2, .int .i64 x275002_2, .int .i64 x275003_2, .int .i64 x275004_2] 31 (0, 0)) (by (with_reducible repeat (first | refine blk_drewN ?_ _ | refine blk_drew ?_ | refine blk_alloc ?_ _)); exact BK274.out)) : gb274 ≠ gb286))) (Aside0.mk ((by rw [hg]; exact Nat.ne_of_gt (blk_lt (g := gb274) (o := .cells #[.int .u8 x275000_2, .int .i64 x275001_2, .int .i64 x275002_2, .int .i64 x275003_2, .int .i64 x275004_2] 31 (0, 0)) (by (with_reducible repeat (first | refine blk_drewN ?_ _ | refine blk_drew ?_ | refine blk_alloc ?_ _)); exact BK274.out)) : gb286 ≠ gb274)))))))))))
           clear hb hbox hg
           refine hK.out _ _ ⟨(blk_cell BK273.out 0).trans rfl, (blk_cell BK273.out 1).trans rfl, (blk_cell BK273.out 2).trans rfl, (blk_cell BK274.out 0).trans rfl, (blk_cell BK274.out 1).trans rfl, (blk_cell BK274.out 2).trans rfl, (blk_cell BK274.out 3).trans rfl, (blk_cell BK274.out 4).trans rfl, (cl_ HB.out hw277_0), (cl_ HB.out hw277_1), (cl_ HB.out hw277_2), (cl_ HB.out hw278_0), (cl_ HB.out hw278_1), (cl_ HB.out hw278_2), (cl_ HB.out hw279_0), (cl_ HB.out hw279_1), (cl_ HB.out hw279_2)⟩ (fun hHeld => ?_)
           clear hK K
           refine norm_ (a' := ?_) ?_ ?_
           rotate_left
           ·
            show Act.put _ (some 11) _ = _
            simp only [Act.put, sa_, s0_, s1_, i64_w, i32_w]
            rfl
           refine one_ (i := 17) (N := some 61) (b_ 24 2359295) rfl rfl (one_of HT_.out (by kernel_rfl)) (by decide) (fun K hK => ?_)
           refine goes_ Try.func10 (by kernel_rfl) rfl #[.agg #[.slice A0_0 l0_0.length c0_0, .int .i64 a0_1, .int .i64 a0_2], .agg #[.int .u8 x275000_2, .int .i64 x275001_2, .int .i64 x275002_2, .int .i64 x275003_2, .int .i64 x275004_2], .int .u8 ((rd_T37 l2 x10_2).f0), .int .i64 ((rd_T37 l2 x10_2).f1), .int .i64 ((rd_T37 l2 x10_2).f2)] (by rfl) rfl rfl (by (try simp only [List.map_toArray, List.map_cons, List.map_nil]); first | done | rfl | (simp only [List.length_drop, List.length_take]; rfl)) ?_
           with_reducible refine (millhandlaw24_step.calls k2 _ _ l0_0 a0_1 a0_2 x275000_2 x275001_2 x275002_2 x275003_2 x275004_2 ((rd_T37 l2 x10_2).f0) ((rd_T37 l2 x10_2).f1) ((rd_T37 l2 x10_2).f2) t280 t281 t282 t283 t284 false _ ?side1 ?side2 A30.out).mono ?_
           (case side1 => repeat (first | exact (Kd.C_below HR0_0.out HB.out) | (with_reducible refine Kd.C_alloc ?_ _) | (with_reducible refine Kd.C_drewN ?_ _) | (with_reducible refine Kd.C_drew ?_)))
           (case side2 => exact HC0_0.out)
           rintro e w94 ⟨rfl, hb⟩
           refine ⟨_, rfl, ?_⟩
           obtain ⟨BK273, BK274, BK286, HB⟩ := And.intro (Aside0.mk (blk_below (g := gb273) (o := .cells #[.slice A0_0 l0_0.length c0_0, .int .i64 a0_1, .int .i64 a0_2] 24 (0, 0)) (by (with_reducible repeat (first | refine blk_drewN ?_ _ | refine blk_drew ?_ | refine blk_alloc ?_ _)); exact BK273.out) hb)) (And.intro (Aside0.mk (blk_below (g := gb274) (o := .cells #[.int .u8 x275000_2, .int .i64 x275001_2, .int .i64 x275002_2, .int .i64 x275003_2, .int .i64 x275004_2] 31 (0, 0)) (by (with_reducible repeat (first | refine blk_drewN ?_ _ | refine blk_drew ?_ | refine blk_alloc ?_ _)); exact BK274.out) hb)) (And.intro (Aside0.mk (blk_below (g := gb286) (o := .cells #[.int .u8 0, .int .i64 0, .int .i64 0, .int .i64 0, .int .i64 0] 31 (0, 0)) (by (with_reducible repeat (first | refine blk_drewN ?_ _ | refine blk_drew ?_ | refine blk_alloc ?_ _)); exact BK286.out) hb)) (Aside0.mk (below_step (by repeat (first | (with_reducible first | exact HB.out | apply below_alloc | apply pw_below_drewN | apply below_drew1 | refine below_set ?_ GE273.out | refine below_set ?_ GE274.out | refine below_set ?_ GE286.out) | exact HB.out)) hb))))
           (try clear hb)
           (try clear hb2)
           (try clear hk)
           (try clear hi)
           refine hK.out _ _ ⟨(blk_cell BK273.out 0).trans rfl, (blk_cell BK273.out 1).trans rfl, (blk_cell BK273.out 2).trans rfl, (blk_cell BK274.out 0).trans rfl, (blk_cell BK274.out 1).trans rfl, (blk_cell BK274.out 2).trans rfl, (blk_cell BK274.out 3).trans rfl, (blk_cell BK274.out 4).trans rfl, (cl_ HB.out hw277_0), (cl_ HB.out hw277_1), (cl_ HB.out hw277_2), (cl_ HB.out hw278_0), (cl_ HB.out hw278_1), (cl_ HB.out hw278_2), (cl_ HB.out hw279_0), (cl_ HB.out hw279_1), (cl_ HB.out hw279_2)⟩ (fun hHeld => ?_)
           clear hK K
           refine norm_ (a' := ?_) ?_ ?_
           rotate_left
           ·
            show Act.put _ (some 61) _ = _
            simp only [Act.put, sa_, s0_, s1_, i64_w, i32_w]
            rfl
           refine pA_ 18 43 ?_ (b_ 24 2621439) (any_of HT_.out (by kernel_rfl)) rfl rfl (fun _ _ _ h => h) (by rfl) ?_ ?_ ?_ ?_
           rotate_left
           ·
            intro w'
            go_simp
            with_reducible rfl
           rotate_left
           ·
            simp only [Act.put, sa_, s0_, s1_, i64_w, i32_w]
            rfl
           refine pA_ 19 62 ?_ (b_ 24 3145727) (any_of HT_.out (by kernel_rfl)) rfl rfl (fun _ _ _ h => h) (by rfl) ?_ ?_ ?_ ?_
           rotate_left
           ·
            intro w'
            go_simp
            with_reducible rfl
           rotate_left
           ·
            simp only [Act.put, sa_, s0_, s1_, i64_w, i32_w]
            rfl
           refine pA_ 20 63 ?_ (b_ 24 4194303) (any_of HT_.out (by kernel_rfl)) rfl rfl (fun _ _ _ h => h) (by rfl) ?_ ?_ ?_ ?_
           rotate_left
           ·
            intro w'
            go_simp
            with_reducible rfl
           rotate_left
           ·
            simp only [Act.put, sa_, s0_, s1_, i64_w, i32_w]
            rfl
           exact norm_ (by simp only [putAll, Act.put, sa_, s0_, s1_]) (hCont (gb286) _ ⟨hHeld, (by (with_reducible repeat (first | refine blk_drewN ?_ _ | refine blk_drew ?_ | refine blk_alloc ?_ _)); exact BK273.out), (by (with_reducible repeat (first | refine blk_drewN ?_ _ | refine blk_drew ?_ | refine blk_alloc ?_ _)); exact BK274.out), (by (with_reducible repeat (first | refine blk_drewN ?_ _ | refine blk_drew ?_ | refine blk_alloc ?_ _)); exact BK286.out), GW286.out, GE286.out, NB273_286.out, NB286_273.out, NB274_286.out, NB286_274.out, (by repeat (first | (with_reducible first | exact HB.out | apply below_alloc | apply pw_below_drewN | apply below_drew1 | refine below_set ?_ GE273.out | refine below_set ?_ GE274.out | refine below_set ?_ GE286.out) | exact HB.out))⟩)
         rintro gb286 w95 ⟨hS_, h0_, h1_, h2_, h3_, h4_, h5_, h6_, h7_, h8_, h9_⟩
         have n0_ : Aside0 (w95.heap[gb273]? = some (.cells #[.slice A0_0 l0_0.length c0_0, .int .i64 a0_1, .int .i64 a0_2] 24 (0, 0))) := ⟨h0_⟩
         have n1_ : Aside0 (w95.heap[gb274]? = some (.cells #[.int .u8 x275000_2, .int .i64 x275001_2, .int .i64 x275002_2, .int .i64 x275003_2, .int .i64 x275004_2] 31 (0, 0))) := ⟨h1_⟩
         have n2_ : Aside0 (w95.heap[gb286]? = some (.cells #[.int .u8 0, .int .i64 0, .int .i64 0, .int .i64 0, .int .i64 0] 31 (0, 0))) := ⟨h2_⟩
         have n3_ : Aside0 (w.heap.size ≤ gb286) := ⟨h3_⟩
         have n4_ : Aside0 (w.heap.size ≤ gb286) := ⟨h4_⟩
         have n5_ : Aside0 (gb273 ≠ gb286) := ⟨h5_⟩
         have n6_ : Aside0 (gb286 ≠ gb273) := ⟨h6_⟩
         have n7_ : Aside0 (gb274 ≠ gb286) := ⟨h7_⟩
         have n8_ : Aside0 (gb286 ≠ gb274) := ⟨h8_⟩
         have n9_ : Aside0 (Below w.heap.size w w95) := ⟨h9_⟩
         clear BK273
         clear BK274
         clear HB
         clear h0_ h1_ h2_ h3_ h4_ h5_ h6_ h7_ h8_ h9_
         have BK273 := n0_
         have BK274 := n1_
         have BK286 := n2_
         have GW286 := n3_
         have GE286 := n4_
         have NB273_286 := n5_
         have NB286_273 := n6_
         have NB274_286 := n7_
         have NB286_274 := n8_
         have HB := n9_
         clear n0_ n1_ n2_ n3_ n4_ n5_ n6_ n7_ n8_ n9_
         have hHeld : w95.cell? ⟨gb273, 0, none⟩ = some (.slice A0_0 l0_0.length c0_0) ∧ w95.cell? ⟨gb273, 1, none⟩ = some (.int .i64 a0_1) ∧ w95.cell? ⟨gb273, 2, none⟩ = some (.int .i64 a0_2) ∧ w95.cell? ⟨gb274, 0, none⟩ = some (.int .u8 x275000_2) ∧ w95.cell? ⟨gb274, 1, none⟩ = some (.int .i64 x275001_2) ∧ w95.cell? ⟨gb274, 2, none⟩ = some (.int .i64 x275002_2) ∧ w95.cell? ⟨gb274, 3, none⟩ = some (.int .i64 x275003_2) ∧ w95.cell? ⟨gb274, 4, none⟩ = some (.int .i64 x275004_2) ∧ w95.cell? (ad277.add ((x10_2).toNat * 3)) = some (.int .u8 ((rd_T37 l2 x10_2).f0)) ∧ w95.cell? ⟨(ad277.add ((x10_2).toNat * 3)).block, (ad277.add ((x10_2).toNat * 3)).off + 1, none⟩ = some (.int .i64 ((rd_T37 l2 x10_2).f1)) ∧ w95.cell? ⟨(ad277.add ((x10_2).toNat * 3)).block, (ad277.add ((x10_2).toNat * 3)).off + 2, none⟩ = some (.int .i64 ((rd_T37 l2 x10_2).f2)) ∧ w95.cell? (ad277.add ((x10_2).toNat * 3)) = some (.int .u8 ((rd_T37 l2 x10_2).f0)) ∧ w95.cell? ⟨(ad277.add ((x10_2).toNat * 3)).block, (ad277.add ((x10_2).toNat * 3)).off + 1, none⟩ = some (.int .i64 ((rd_T37 l2 x10_2).f1)) ∧ w95.cell? ⟨(ad277.add ((x10_2).toNat * 3)).block, (ad277.add ((x10_2).toNat * 3)).off + 2, none⟩ = some (.int .i64 ((rd_T37 l2 x10_2).f2)) ∧ w95.cell? (ad277.add ((x10_2).toNat * 3)) = some (.int .u8 ((rd_T37 l2 x10_2).f0)) ∧ w95.cell? ⟨(ad277.add ((x10_2).toNat * 3)).block, (ad277.add ((x10_2).toNat * 3)).off + 1, none⟩ = some (.int .i64 ((rd_T37 l2 x10_2).f1)) ∧ w95.cell? ⟨(ad277.add ((x10_2).toNat * 3)).block, (ad277.add ((x10_2).toNat * 3)).off + 2, none⟩ = some (.int .i64 ((rd_T37 l2 x10_2).f2)) := hS_
         refine norm_ (a' := ?_) ?_ ?_
         rotate_left
         ·
          simp only [putAll, Act.put, sa_, s0_, s1_]
          rfl
         refine one_ (i := 22) (N := none) (b_ 24 8388607) rfl rfl (one_of HT_.out (by kernel_rfl)) (by decide) (fun K hK => ?_)
         have hs96 : w95.cell? ⟨gb286, 0, none⟩ = some (.int .u8 0) := (blk_cell BK286.out 0).trans rfl
         have hfs96 := blk_frozen BK286.out 0
         have hns96_0 := NB273_286.out
         have hns96_1 := NB274_286.out
         have hms96_0 := NB286_273.out
         have hms96_1 := NB286_274.out
         have hs97 : w95.cell? ⟨gb286, 1, none⟩ = some (.int .i64 0) := (blk_cell BK286.out 1).trans rfl
         have hfs97 := blk_frozen BK286.out 1
         have hns97_0 := NB273_286.out
         have hns97_1 := NB274_286.out
         have hms97_0 := NB286_273.out
         have hms97_1 := NB286_274.out
         have hs98 : w95.cell? ⟨gb286, 2, none⟩ = some (.int .i64 0) := (blk_cell BK286.out 2).trans rfl
         have hfs98 := blk_frozen BK286.out 2
         have hns98_0 := NB273_286.out
         have hns98_1 := NB274_286.out
         have hms98_0 := NB286_273.out
         have hms98_1 := NB286_274.out
         have hs99 : w95.cell? ⟨gb286, 3, none⟩ = some (.int .i64 0) := (blk_cell BK286.out 3).trans rfl
         have hfs99 := blk_frozen BK286.out 3
         have hns99_0 := NB273_286.out
         have hns99_1 := NB274_286.out
         have hms99_0 := NB286_273.out
         have hms99_1 := NB286_274.out
         have hs100 : w95.cell? ⟨gb286, 4, none⟩ = some (.int .i64 0) := (blk_cell BK286.out 4).trans rfl
         have hfs100 := blk_frozen BK286.out 4
         have hns100_0 := NB273_286.out
         have hns100_1 := NB274_286.out
         have hms100_0 := NB286_273.out
         have hms100_1 := NB286_274.out
         refine skip_ (w1 := ?_) (by rfl) rfl ?_ ?_
         rotate_left
         ·
          go_simp
          rfl
         refine hK.out _ _ ⟨((cell_far (p := ⟨gb286, _, none⟩) NB273_286.out _).trans (((cell_far (p := ⟨gb286, _, none⟩) NB273_286.out _).trans (((cell_far (p := ⟨gb286, _, none⟩) NB273_286.out _).trans (((cell_far (p := ⟨gb286, _, none⟩) NB273_286.out _).trans (((cell_far (p := ⟨gb286, _, none⟩) NB273_286.out _).trans (hHeld.1)))))))))), ((cell_far (p := ⟨gb286, _, none⟩) NB273_286.out _).trans (((cell_far (p := ⟨gb286, _, none⟩) NB273_286.out _).trans (((cell_far (p := ⟨gb286, _, none⟩) NB273_286.out _).trans (((cell_far (p := ⟨gb286, _, none⟩) NB273_286.out _).trans (((cell_far (p := ⟨gb286, _, none⟩) NB273_286.out _).trans (hHeld.2.1)))))))))), ((cell_far (p := ⟨gb286, _, none⟩) NB273_286.out _).trans (((cell_far (p := ⟨gb286, _, none⟩) NB273_286.out _).trans (((cell_far (p := ⟨gb286, _, none⟩) NB273_286.out _).trans (((cell_far (p := ⟨gb286, _, none⟩) NB273_286.out _).trans (((cell_far (p := ⟨gb286, _, none⟩) NB273_286.out _).trans (hHeld.2.2.1)))))))))), ((cell_far (p := ⟨gb286, _, none⟩) NB274_286.out _).trans (((cell_far (p := ⟨gb286, _, none⟩) NB274_286.out _).trans (((cell_far (p := ⟨gb286, _, none⟩) NB274_286.out _).trans (((cell_far (p := ⟨gb286, _, none⟩) NB274_286.out _).trans (((cell_far (p := ⟨gb286, _, none⟩) NB274_286.out _).trans (hHeld.2.2.2.1)))))))))), ((cell_far (p := ⟨gb286, _, none⟩) NB274_286.out _).trans (((cell_far (p := ⟨gb286, _, none⟩) NB274_286.out _).trans (((cell_far (p := ⟨gb286, _, none⟩) NB274_286.out _).trans (((cell_far (p := ⟨gb286, _, none⟩) NB274_286.out _).trans (((cell_far (p := ⟨gb286, _, none⟩) NB274_286.out _).trans (hHeld.2.2.2.2.1)))))))))), ((cell_far (p := ⟨gb286, _, none⟩) NB274_286.out _).trans (((cell_far (p := ⟨gb286, _, none⟩) NB274_286.out _).trans (((cell_far (p := ⟨gb286, _, none⟩) NB274_286.out _).trans (((cell_far (p := ⟨gb286, _, none⟩) NB274_286.out _).trans (((cell_far (p := ⟨gb286, _, none⟩) NB274_286.out _).trans (hHeld.2.2.2.2.2.1)))))))))), ((cell_far (p := ⟨gb286, _, none⟩) NB274_286.out _).trans (((cell_far (p := ⟨gb286, _, none⟩) NB274_286.out _).trans (((cell_far (p := ⟨gb286, _, none⟩) NB274_286.out _).trans (((cell_far (p := ⟨gb286, _, none⟩) NB274_286.out _).trans (((cell_far (p := ⟨gb286, _, none⟩) NB274_286.out _).trans (hHeld.2.2.2.2.2.2.1)))))))))), ((cell_far (p := ⟨gb286, _, none⟩) NB274_286.out _).trans (((cell_far (p := ⟨gb286, _, none⟩) NB274_286.out _).trans (((cell_far (p := ⟨gb286, _, none⟩) NB274_286.out _).trans (((cell_far (p := ⟨gb286, _, none⟩) NB274_286.out _).trans (((cell_far (p := ⟨gb286, _, none⟩) NB274_286.out _).trans (hHeld.2.2.2.2.2.2.2.1)))))))))), ((cell_far (p := ⟨gb286, _, none⟩) (by first | exact Nat.ne_of_lt (Nat.lt_of_lt_of_le (by have := World.block_lt_of_cell? _ _ hw277_0; first | rwa [add_block] at this | exact this) GW286.out) | (rw [add_block]; exact Nat.ne_of_lt (Nat.lt_of_lt_of_le (by have := World.block_lt_of_cell? _ _ hw277_0; first | rwa [add_block] at this | exact this) GW286.out)) | (show (Addr.add _ _).block ≠ _; rw [add_block]; exact Nat.ne_of_lt (Nat.lt_of_lt_of_le (by have := World.block_lt_of_cell? _ _ hw277_0; first | rwa [add_block] at this | exact this) GW286.out)) | (dsimp only; exact Nat.ne_of_lt (Nat.lt_of_lt_of_le (by have := World.block_lt_of_cell? _ _ hw277_0; first | rwa [add_block] at this | exact this) GW286.out))) _).trans (((cell_far (p := ⟨gb286, _, none⟩) (by first | exact Nat.ne_of_lt (Nat.lt_of_lt_of_le (by have := World.block_lt_of_cell? _ _ hw277_0; first | rwa [add_block] at this | exact this) GW286.out) | (rw [add_block]; exact Nat.ne_of_lt (Nat.lt_of_lt_of_le (by have := World.block_lt_of_cell? _ _ hw277_0; first | rwa [add_block] at this | exact this) GW286.out)) | (show (Addr.add _ _).block ≠ _; rw [add_block]; exact Nat.ne_of_lt (Nat.lt_of_lt_of_le (by have := World.block_lt_of_cell? _ _ hw277_0; first | rwa [add_block] at this | exact this) GW286.out)) | (dsimp only; exact Nat.ne_of_lt (Nat.lt_of_lt_of_le (by have := World.block_lt_of_cell? _ _ hw277_0; first | rwa [add_block] at this | exact this) GW286.out))) _).trans (((cell_far (p := ⟨gb286, _, none⟩) (by first | exact Nat.ne_of_lt (Nat.lt_of_lt_of_le (by have := World.block_lt_of_cell? _ _ hw277_0; first | rwa [add_block] at this | exact this) GW286.out) | (rw [add_block]; exact Nat.ne_of_lt (Nat.lt_of_lt_of_le (by have := World.block_lt_of_cell? _ _ hw277_0; first | rwa [add_block] at this | exact this) GW286.out)) | (show (Addr.add _ _).block ≠ _; rw [add_block]; exact Nat.ne_of_lt (Nat.lt_of_lt_of_le (by have := World.block_lt_of_cell? _ _ hw277_0; first | rwa [add_block] at this | exact this) GW286.out)) | (dsimp only; exact Nat.ne_of_lt (Nat.lt_of_lt_of_le (by have := World.block_lt_of_cell? _ _ hw277_0; first | rwa [add_block] at this | exact this) GW286.out))) _).trans (((cell_far (p := ⟨gb286, _, none⟩) (by first | exact Nat.ne_of_lt (Nat.lt_of_lt_of_le (by have := World.block_lt_of_cell? _ _ hw277_0; first | rwa [add_block] at this | exact this) GW286.out) | (rw [add_block]; exact Nat.ne_of_lt (Nat.lt_of_lt_of_le (by have := World.block_lt_of_cell? _ _ hw277_0; first | rwa [add_block] at this | exact this) GW286.out)) | (show (Addr.add _ _).block ≠ _; rw [add_block]; exact Nat.ne_of_lt (Nat.lt_of_lt_of_le (by have := World.block_lt_of_cell? _ _ hw277_0; first | rwa [add_block] at this | exact this) GW286.out)) | (dsimp only; exact Nat.ne_of_lt (Nat.lt_of_lt_of_le (by have := World.block_lt_of_cell? _ _ hw277_0; first | rwa [add_block] at this | exact this) GW286.out))) _).trans (((cell_far (p := ⟨gb286, _, none⟩) (by first | exact Nat.ne_of_lt (Nat.lt_of_lt_of_le (by have := World.block_lt_of_cell? _ _ hw277_0; first | rwa [add_block] at this | exact this) GW286.out) | (rw [add_block]; exact Nat.ne_of_lt (Nat.lt_of_lt_of_le (by have := World.block_lt_of_cell? _ _ hw277_0; first | rwa [add_block] at this | exact this) GW286.out)) | (show (Addr.add _ _).block ≠ _; rw [add_block]; exact Nat.ne_of_lt (Nat.lt_of_lt_of_le (by have := World.block_lt_of_cell? _ _ hw277_0; first | rwa [add_block] at this | exact this) GW286.out)) | (dsimp only; exact Nat.ne_of_lt (Nat.lt_of_lt_of_le (by have := World.block_lt_of_cell? _ _ hw277_0; first | rwa [add_block] at this | exact this) GW286.out))) _).trans (hHeld.2.2.2.2.2.2.2.2.1)))))))))), ((cell_far (p := ⟨gb286, _, none⟩) (by first | exact Nat.ne_of_lt (Nat.lt_of_lt_of_le (by have := World.block_lt_of_cell? _ _ hw277_1; first | rwa [add_block] at this | exact this) GW286.out) | (rw [add_block]; exact Nat.ne_of_lt (Nat.lt_of_lt_of_le (by have := World.block_lt_of_cell? _ _ hw277_1; first | rwa [add_block] at this | exact this) GW286.out)) | (show (Addr.add _ _).block ≠ _; rw [add_block]; exact Nat.ne_of_lt (Nat.lt_of_lt_of_le (by have := World.block_lt_of_cell? _ _ hw277_1; first | rwa [add_block] at this | exact this) GW286.out)) | (dsimp only; exact Nat.ne_of_lt (Nat.lt_of_lt_of_le (by have := World.block_lt_of_cell? _ _ hw277_1; first | rwa [add_block] at this | exact this) GW286.out))) _).trans (((cell_far (p := ⟨gb286, _, none⟩) (by first | exact Nat.ne_of_lt (Nat.lt_of_lt_of_le (by have := World.block_lt_of_cell? _ _ hw277_1; first | rwa [add_block] at this | exact this) GW286.out) | (rw [add_block]; exact Nat.ne_of_lt (Nat.lt_of_lt_of_le (by have := World.block_lt_of_cell? _ _ hw277_1; first | rwa [add_block] at this | exact this) GW286.out)) | (show (Addr.add _ _).block ≠ _; rw [add_block]; exact Nat.ne_of_lt (Nat.lt_of_lt_of_le (by have := World.block_lt_of_cell? _ _ hw277_1; first | rwa [add_block] at this | exact this) GW286.out)) | (dsimp only; exact Nat.ne_of_lt (Nat.lt_of_lt_of_le (by have := World.block_lt_of_cell? _ _ hw277_1; first | rwa [add_block] at this | exact this) GW286.out))) _).trans (((cell_far (p := ⟨gb286, _, none⟩) (by first | exact Nat.ne_of_lt (Nat.lt_of_lt_of_le (by have := World.block_lt_of_cell? _ _ hw277_1; first | rwa [add_block] at this | exact this) GW286.out) | (rw [add_block]; exact Nat.ne_of_lt (Nat.lt_of_lt_of_le (by have := World.block_lt_of_cell? _ _ hw277_1; first | rwa [add_block] at this | exact this) GW286.out)) | (show (Addr.add _ _).block ≠ _; rw [add_block]; exact Nat.ne_of_lt (Nat.lt_of_lt_of_le (by have := World.block_lt_of_cell? _ _ hw277_1; first | rwa [add_block] at this | exact this) GW286.out)) | (dsimp only; exact Nat.ne_of_lt (Nat.lt_of_lt_of_le (by have := World.block_lt_of_cell? _ _ hw277_1; first | rwa [add_block] at this | exact this) GW286.out))) _).trans (((cell_far (p := ⟨gb286, _, none⟩) (by first | exact Nat.ne_of_lt (Nat.lt_of_lt_of_le (by have := World.block_lt_of_cell? _ _ hw277_1; first | rwa [add_block] at this | exact this) GW286.out) | (rw [add_block]; exact Nat.ne_of_lt (Nat.lt_of_lt_of_le (by have := World.block_lt_of_cell? _ _ hw277_1; first | rwa [add_block] at this | exact this) GW286.out)) | (show (Addr.add _ _).block ≠ _; rw [add_block]; exact Nat.ne_of_lt (Nat.lt_of_lt_of_le (by have := World.block_lt_of_cell? _ _ hw277_1; first | rwa [add_block] at this | exact this) GW286.out)) | (dsimp only; exact Nat.ne_of_lt (Nat.lt_of_lt_of_le (by have := World.block_lt_of_cell? _ _ hw277_1; first | rwa [add_block] at this | exact this) GW286.out))) _).trans (((cell_far (p := ⟨gb286, _, none⟩) (by first | exact Nat.ne_of_lt (Nat.lt_of_lt_of_le (by have := World.block_lt_of_cell? _ _ hw277_1; first | rwa [add_block] at this | exact this) GW286.out) | (rw [add_block]; exact Nat.ne_of_lt (Nat.lt_of_lt_of_le (by have := World.block_lt_of_cell? _ _ hw277_1; first | rwa [add_block] at this | exact this) GW286.out)) | (show (Addr.add _ _).block ≠ _; rw [add_block]; exact Nat.ne_of_lt (Nat.lt_of_lt_of_le (by have := World.block_lt_of_cell? _ _ hw277_1; first | rwa [add_block] at this | exact this) GW286.out)) | (dsimp only; exact Nat.ne_of_lt (Nat.lt_of_lt_of_le (by have := World.block_lt_of_cell? _ _ hw277_1; first | rwa [add_block] at this | exact this) GW286.out))) _).trans (hHeld.2.2.2.2.2.2.2.2.2.1)))))))))), ((cell_far (p := ⟨gb286, _, none⟩) (by first | exact Nat.ne_of_lt (Nat.lt_of_lt_of_le (by have := World.block_lt_of_cell? _ _ hw277_2; first | rwa [add_block] at this | exact this) GW286.out) | (rw [add_block]; exact Nat.ne_of_lt (Nat.lt_of_lt_of_le (by have := World.block_lt_of_cell? _ _ hw277_2; first | rwa [add_block] at this | exact this) GW286.out)) | (show (Addr.add _ _).block ≠ _; rw [add_block]; exact Nat.ne_of_lt (Nat.lt_of_lt_of_le (by have := World.block_lt_of_cell? _ _ hw277_2; first | rwa [add_block] at this | exact this) GW286.out)) | (dsimp only; exact Nat.ne_of_lt (Nat.lt_of_lt_of_le (by have := World.block_lt_of_cell? _ _ hw277_2; first | rwa [add_block] at this | exact this) GW286.out))) _).trans (((cell_far (p := ⟨gb286, _, none⟩) (by first | exact Nat.ne_of_lt (Nat.lt_of_lt_of_le (by have := World.block_lt_of_cell? _ _ hw277_2; first | rwa [add_block] at this | exact this) GW286.out) | (rw [add_block]; exact Nat.ne_of_lt (Nat.lt_of_lt_of_le (by have := World.block_lt_of_cell? _ _ hw277_2; first | rwa [add_block] at this | exact this) GW286.out)) | (show (Addr.add _ _).block ≠ _; rw [add_block]; exact Nat.ne_of_lt (Nat.lt_of_lt_of_le (by have := World.block_lt_of_cell? _ _ hw277_2; first | rwa [add_block] at this | exact this) GW286.out)) | (dsimp only; exact Nat.ne_of_lt (Nat.lt_of_lt_of_le (by have := World.block_lt_of_cell? _ _ hw277_2; first | rwa [add_block] at this | exact this) GW286.out))) _).trans (((cell_far (p := ⟨gb286, _, none⟩) (by first | exact Nat.ne_of_lt (Nat.lt_of_lt_of_le (by have := World.block_lt_of_cell? _ _ hw277_2; first | rwa [add_block] at this | exact this) GW286.out) | (rw [add_block]; exact Nat.ne_of_lt (Nat.lt_of_lt_of_le (by have := World.block_lt_of_cell? _ _ hw277_2; first | rwa [add_block] at this | exact this) GW286.out)) | (show (Addr.add _ _).block ≠ _; rw [add_block]; exact Nat.ne_of_lt (Nat.lt_of_lt_of_le (by have := World.block_lt_of_cell? _ _ hw277_2; first | rwa [add_block] at this | exact this) GW286.out)) | (dsimp only; exact Nat.ne_of_lt (Nat.lt_of_lt_of_le (by have := World.block_lt_of_cell? _ _ hw277_2; first | rwa [add_block] at this | exact this) GW286.out))) _).trans (((cell_far (p := ⟨gb286, _, none⟩) (by first | exact Nat.ne_of_lt (Nat.lt_of_lt_of_le (by have := World.block_lt_of_cell? _ _ hw277_2; first | rwa [add_block] at this | exact this) GW286.out) | (rw [add_block]; exact Nat.ne_of_lt (Nat.lt_of_lt_of_le (by have := World.block_lt_of_cell? _ _ hw277_2; first | rwa [add_block] at this | exact this) GW286.out)) | (show (Addr.add _ _).block ≠ _; rw [add_block]; exact Nat.ne_of_lt (Nat.lt_of_lt_of_le (by have := World.block_lt_of_cell? _ _ hw277_2; first | rwa [add_block] at this | exact this) GW286.out)) | (dsimp only; exact Nat.ne_of_lt (Nat.lt_of_lt_of_le (by have := World.block_lt_of_cell? _ _ hw277_2; first | rwa [add_block] at this | exact this) GW286.out))) _).trans (((cell_far (p := ⟨gb286, _, none⟩) (by first | exact Nat.ne_of_lt (Nat.lt_of_lt_of_le (by have := World.block_lt_of_cell? _ _ hw277_2; first | rwa [add_block] at this | exact this) GW286.out) | (rw [add_block]; exact Nat.ne_of_lt (Nat.lt_of_lt_of_le (by have := World.block_lt_of_cell? _ _ hw277_2; first | rwa [add_block] at this | exact this) GW286.out)) | (show (Addr.add _ _).block ≠ _; rw [add_block]; exact Nat.ne_of_lt (Nat.lt_of_lt_of_le (by have := World.block_lt_of_cell? _ _ hw277_2; first | rwa [add_block] at this | exact this) GW286.out)) | (dsimp only; exact Nat.ne_of_lt (Nat.lt_of_lt_of_le (by have := World.block_lt_of_cell? _ _ hw277_2; first | rwa [add_block] at this | exact this) GW286.out))) _).trans (hHeld.2.2.2.2.2.2.2.2.2.2.1)))))))))), ((cell_far (p := ⟨gb286, _, none⟩) (by first | exact Nat.ne_of_lt (Nat.lt_of_lt_of_le (by have := World.block_lt_of_cell? _ _ hw278_0; first | rwa [add_block] at this | exact this) GW286.out) | (rw [add_block]; exact Nat.ne_of_lt (Nat.lt_of_lt_of_le (by have := World.block_lt_of_cell? _ _ hw278_0; first | rwa [add_block] at this | exact this) GW286.out)) | (show (Addr.add _ _).block ≠ _; rw [add_block]; exact Nat.ne_of_lt (Nat.lt_of_lt_of_le (by have := World.block_lt_of_cell? _ _ hw278_0; first | rwa [add_block] at this | exact this) GW286.out)) | (dsimp only; exact Nat.ne_of_lt (Nat.lt_of_lt_of_le (by have := World.block_lt_of_cell? _ _ hw278_0; first | rwa [add_block] at this | exact this) GW286.out))) _).trans (((cell_far (p := ⟨gb286, _, none⟩) (by first | exact Nat.ne_of_lt (Nat.lt_of_lt_of_le (by have := World.block_lt_of_cell? _ _ hw278_0; first | rwa [add_block] at this | exact this) GW286.out) | (rw [add_block]; exact Nat.ne_of_lt (Nat.lt_of_lt_of_le (by have := World.block_lt_of_cell? _ _ hw278_0; first | rwa [add_block] at this | exact this) GW286.out)) | (show (Addr.add _ _).block ≠ _; rw [add_block]; exact Nat.ne_of_lt (Nat.lt_of_lt_of_le (by have := World.block_lt_of_cell? _ _ hw278_0; first | rwa [add_block] at this | exact this) GW286.out)) | (dsimp only; exact Nat.ne_of_lt (Nat.lt_of_lt_of_le (by have := World.block_lt_of_cell? _ _ hw278_0; first | rwa [add_block] at this | exact this) GW286.out))) _).trans (((cell_far (p := ⟨gb286, _, none⟩) (by first | exact Nat.ne_of_lt (Nat.lt_of_lt_of_le (by have := World.block_lt_of_cell? _ _ hw278_0; first | rwa [add_block] at this | exact this) GW286.out) | (rw [add_block]; exact Nat.ne_of_lt (Nat.lt_of_lt_of_le (by have := World.block_lt_of_cell? _ _ hw278_0; first | rwa [add_block] at this | exact this) GW286.out)) | (show (Addr.add _ _).block ≠ _; rw [add_block]; exact Nat.ne_of_lt (Nat.lt_of_lt_of_le (by have := World.block_lt_of_cell? _ _ hw278_0; first | rwa [add_block] at this | exact this) GW286.out)) | (dsimp only; exact Nat.ne_of_lt (Nat.lt_of_lt_of_le (by have := World.block_lt_of_cell? _ _ hw278_0; first | rwa [add_block] at this | exact this) GW286.out))) _).trans (((cell_far (p := ⟨gb286, _, none⟩) (by first | exact Nat.ne_of_lt (Nat.lt_of_lt_of_le (by have := World.block_lt_of_cell? _ _ hw278_0; first | rwa [add_block] at this | exact this) GW286.out) | (rw [add_block]; exact Nat.ne_of_lt (Nat.lt_of_lt_of_le (by have := World.block_lt_of_cell? _ _ hw278_0; first | rwa [add_block] at this | exact this) GW286.out)) | (show (Addr.add _ _).block ≠ _; rw [add_block]; exact Nat.ne_of_lt (Nat.lt_of_lt_of_le (by have := World.block_lt_of_cell? _ _ hw278_0; first | rwa [add_block] at this | exact this) GW286.out)) | (dsimp only; exact Nat.ne_of_lt (Nat.lt_of_lt_of_le (by have := World.block_lt_of_cell? _ _ hw278_0; first | rwa [add_block] at this | exact this) GW286.out))) _).trans (((cell_far (p := ⟨gb286, _, none⟩) (by first | exact Nat.ne_of_lt (Nat.lt_of_lt_of_le (by have := World.block_lt_of_cell? _ _ hw278_0; first | rwa [add_block] at this | exact this) GW286.out) | (rw [add_block]; exact Nat.ne_of_lt (Nat.lt_of_lt_of_le (by have := World.block_lt_of_cell? _ _ hw278_0; first | rwa [add_block] at this | exact this) GW286.out)) | (show (Addr.add _ _).block ≠ _; rw [add_block]; exact Nat.ne_of_lt (Nat.lt_of_lt_of_le (by have := World.block_lt_of_cell? _ _ hw278_0; first | rwa [add_block] at this | exact this) GW286.out)) | (dsimp only; exact Nat.ne_of_lt (Nat.lt_of_lt_of_le (by have := World.block_lt_of_cell? _ _ hw278_0; first | rwa [add_block] at this | exact this) GW286.out))) _).trans (hHeld.2.2.2.2.2.2.2.2.2.2.2.1)))))))))), ((cell_far (p := ⟨gb286, _, none⟩) (by first | exact Nat.ne_of_lt (Nat.lt_of_lt_of_le (by have := World.block_lt_of_cell? _ _ hw278_1; first | rwa [add_block] at this | exact this) GW286.out) | (rw [add_block]; exact Nat.ne_of_lt (Nat.lt_of_lt_of_le (by have := World.block_lt_of_cell? _ _ hw278_1; first | rwa [add_block] at this | exact this) GW286.out)) | (show (Addr.add _ _).block ≠ _; rw [add_block]; exact Nat.ne_of_lt (Nat.lt_of_lt_of_le (by have := World.block_lt_of_cell? _ _ hw278_1; first | rwa [add_block] at this | exact this) GW286.out)) | (dsimp only; exact Nat.ne_of_lt (Nat.lt_of_lt_of_le (by have := World.block_lt_of_cell? _ _ hw278_1; first | rwa [add_block] at this | exact this) GW286.out))) _).trans (((cell_far (p := ⟨gb286, _, none⟩) (by first | exact Nat.ne_of_lt (Nat.lt_of_lt_of_le (by have := World.block_lt_of_cell? _ _ hw278_1; first | rwa [add_block] at this | exact this) GW286.out) | (rw [add_block]; exact Nat.ne_of_lt (Nat.lt_of_lt_of_le (by have := World.block_lt_of_cell? _ _ hw278_1; first | rwa [add_block] at this | exact this) GW286.out)) | (show (Addr.add _ _).block ≠ _; rw [add_block]; exact Nat.ne_of_lt (Nat.lt_of_lt_of_le (by have := World.block_lt_of_cell? _ _ hw278_1; first | rwa [add_block] at this | exact this) GW286.out)) | (dsimp only; exact Nat.ne_of_lt (Nat.lt_of_lt_of_le (by have := World.block_lt_of_cell? _ _ hw278_1; first | rwa [add_block] at this | exact this) GW286.out))) _).trans (((cell_far (p := ⟨gb286, _, none⟩) (by first | exact Nat.ne_of_lt (Nat.lt_of_lt_of_le (by have := World.block_lt_of_cell? _ _ hw278_1; first | rwa [add_block] at this | exact this) GW286.out) | (rw [add_block]; exact Nat.ne_of_lt (Nat.lt_of_lt_of_le (by have := World.block_lt_of_cell? _ _ hw278_1; first | rwa [add_block] at this | exact this) GW286.out)) | (show (Addr.add _ _).block ≠ _; rw [add_block]; exact Nat.ne_of_lt (Nat.lt_of_lt_of_le (by have := World.block_lt_of_cell? _ _ hw278_1; first | rwa [add_block] at this | exact this) GW286.out)) | (dsimp only; exact Nat.ne_of_lt (Nat.lt_of_lt_of_le (by have := World.block_lt_of_cell? _ _ hw278_1; first | rwa [add_block] at this | exact this) GW286.out))) _).trans (((cell_far (p := ⟨gb286, _, none⟩) (by first | exact Nat.ne_of_lt (Nat.lt_of_lt_of_le (by have := World.block_lt_of_cell? _ _ hw278_1; first | rwa [add_block] at this | exact this) GW286.out) | (rw [add_block]; exact Nat.ne_of_lt (Nat.lt_of_lt_of_le (by have := World.block_lt_of_cell? _ _ hw278_1; first | rwa [add_block] at this | exact this) GW286.out)) | (show (Addr.add _ _).block ≠ _; rw [add_block]; exact Nat.ne_of_lt (Nat.lt_of_lt_of_le (by have := World.block_lt_of_cell? _ _ hw278_1; first | rwa [add_block] at this | exact this) GW286.out)) | (dsimp only; exact Nat.ne_of_lt (Nat.lt_of_lt_of_le (by have := World.block_lt_of_cell? _ _ hw278_1; first | rwa [add_block] at this | exact this) GW286.out))) _).trans (((cell_far (p := ⟨gb286, _, none⟩) (by first | exact Nat.ne_of_lt (Nat.lt_of_lt_of_le (by have := World.block_lt_of_cell? _ _ hw278_1; first | rwa [add_block] at this | exact this) GW286.out) | (rw [add_block]; exact Nat.ne_of_lt (Nat.lt_of_lt_of_le (by have := World.block_lt_of_cell? _ _ hw278_1; first | rwa [add_block] at this | exact this) GW286.out)) | (show (Addr.add _ _).block ≠ _; rw [add_block]; exact Nat.ne_of_lt (Nat.lt_of_lt_of_le (by have := World.block_lt_of_cell? _ _ hw278_1; first | rwa [add_block] at this | exact this) GW286.out)) | (dsimp only; exact Nat.ne_of_lt (Nat.lt_of_lt_of_le (by have := World.block_lt_of_cell? _ _ hw278_1; first | rwa [add_block] at this | exact this) GW286.out))) _).trans (hHeld.2.2.2.2.2.2.2.2.2.2.2.2.1)))))))))), ((cell_far (p := ⟨gb286, _, none⟩) (by first | exact Nat.ne_of_lt (Nat.lt_of_lt_of_le (by have := World.block_lt_of_cell? _ _ hw278_2; first | rwa [add_block] at this | exact this) GW286.out) | (rw [add_block]; exact Nat.ne_of_lt (Nat.lt_of_lt_of_le (by have := World.block_lt_of_cell? _ _ hw278_2; first | rwa [add_block] at this | exact this) GW286.out)) | (show (Addr.add _ _).block ≠ _; rw [add_block]; exact Nat.ne_of_lt (Nat.lt_of_lt_of_le (by have := World.block_lt_of_cell? _ _ hw278_2; first | rwa [add_block] at this | exact this) GW286.out)) | (dsimp only; exact Nat.ne_of_lt (Nat.lt_of_lt_of_le (by have := World.block_lt_of_cell? _ _ hw278_2; first | rwa [add_block] at this | exact this) GW286.out))) _).trans (((cell_far (p := ⟨gb286, _, none⟩) (by first | exact Nat.ne_of_lt (Nat.lt_of_lt_of_le (by have := World.block_lt_of_cell? _ _ hw278_2; first | rwa [add_block] at this | exact this) GW286.out) | (rw [add_block]; exact Nat.ne_of_lt (Nat.lt_of_lt_of_le (by have := World.block_lt_of_cell? _ _ hw278_2; first | rwa [add_block] at this | exact this) GW286.out)) | (show (Addr.add _ _).block ≠ _; rw [add_block]; exact Nat.ne_of_lt (Nat.lt_of_lt_of_le (by have := World.block_lt_of_cell? _ _ hw278_2; first | rwa [add_block] at this | exact this) GW286.out)) | (dsimp only; exact Nat.ne_of_lt (Nat.lt_of_lt_of_le (by have := World.block_lt_of_cell? _ _ hw278_2; first | rwa [add_block] at this | exact this) GW286.out))) _).trans (((cell_far (p := ⟨gb286, _, none⟩) (by first | exact Nat.ne_of_lt (Nat.lt_of_lt_of_le (by have := World.block_lt_of_cell? _ _ hw278_2; first | rwa [add_block] at this | exact this) GW286.out) | (rw [add_block]; exact Nat.ne_of_lt (Nat.lt_of_lt_of_le (by have := World.block_lt_of_cell? _ _ hw278_2; first | rwa [add_block] at this | exact this) GW286.out)) | (show (Addr.add _ _).block ≠ _; rw [add_block]; exact Nat.ne_of_lt (Nat.lt_of_lt_of_le (by have := World.block_lt_of_cell? _ _ hw278_2; first | rwa [add_block] at this | exact this) GW286.out)) | (dsimp only; exact Nat.ne_of_lt (Nat.lt_of_lt_of_le (by have := World.block_lt_of_cell? _ _ hw278_2; first | rwa [add_block] at this | exact this) GW286.out))) _).trans (((cell_far (p := ⟨gb286, _, none⟩) (by first | exact Nat.ne_of_lt (Nat.lt_of_lt_of_le (by have := World.block_lt_of_cell? _ _ hw278_2; first | rwa [add_block] at this | exact this) GW286.out) | (rw [add_block]; exact Nat.ne_of_lt (Nat.lt_of_lt_of_le (by have := World.block_lt_of_cell? _ _ hw278_2; first | rwa [add_block] at this | exact this) GW286.out)) | (show (Addr.add _ _).block ≠ _; rw [add_block]; exact Nat.ne_of_lt (Nat.lt_of_lt_of_le (by have := World.block_lt_of_cell? _ _ hw278_2; first | rwa [add_block] at this | exact this) GW286.out)) | (dsimp only; exact Nat.ne_of_lt (Nat.lt_of_lt_of_le (by have := World.block_lt_of_cell? _ _ hw278_2; first | rwa [add_block] at this | exact this) GW286.out))) _).trans (((cell_far (p := ⟨gb286, _, none⟩) (by first | exact Nat.ne_of_lt (Nat.lt_of_lt_of_le (by have := World.block_lt_of_cell? _ _ hw278_2; first | rwa [add_block] at this | exact this) GW286.out) | (rw [add_block]; exact Nat.ne_of_lt (Nat.lt_of_lt_of_le (by have := World.block_lt_of_cell? _ _ hw278_2; first | rwa [add_block] at this | exact this) GW286.out)) | (show (Addr.add _ _).block ≠ _; rw [add_block]; exact Nat.ne_of_lt (Nat.lt_of_lt_of_le (by have := World.block_lt_of_cell? _ _ hw278_2; first | rwa [add_block] at this | exact this) GW286.out)) | (dsimp only; exact Nat.ne_of_lt (Nat.lt_of_lt_of_le (by have := World.block_lt_of_cell? _ _ hw278_2; first | rwa [add_block] at this | exact this) GW286.out))) _).trans (hHeld.2.2.2.2.2.2.2.2.2.2.2.2.2.1)))))))))), ((cell_far (p := ⟨gb286, _, none⟩) (by first | exact Nat.ne_of_lt (Nat.lt_of_lt_of_le (by have := World.block_lt_of_cell? _ _ hw279_0; first | rwa [add_block] at this | exact this) GW286.out) | (rw [add_block]; exact Nat.ne_of_lt (Nat.lt_of_lt_of_le (by have := World.block_lt_of_cell? _ _ hw279_0; first | rwa [add_block] at this | exact this) GW286.out)) | (show (Addr.add _ _).block ≠ _; rw [add_block]; exact Nat.ne_of_lt (Nat.lt_of_lt_of_le (by have := World.block_lt_of_cell? _ _ hw279_0; first | rwa [add_block] at this | exact this) GW286.out)) | (dsimp only; exact Nat.ne_of_lt (Nat.lt_of_lt_of_le (by have := World.block_lt_of_cell? _ _ hw279_0; first | rwa [add_block] at this | exact this) GW286.out))) _).trans (((cell_far (p := ⟨gb286, _, none⟩) (by first | exact Nat.ne_of_lt (Nat.lt_of_lt_of_le (by have := World.block_lt_of_cell? _ _ hw279_0; first | rwa [add_block] at this | exact this) GW286.out) | (rw [add_block]; exact Nat.ne_of_lt (Nat.lt_of_lt_of_le (by have := World.block_lt_of_cell? _ _ hw279_0; first | rwa [add_block] at this | exact this) GW286.out)) | (show (Addr.add _ _).block ≠ _; rw [add_block]; exact Nat.ne_of_lt (Nat.lt_of_lt_of_le (by have := World.block_lt_of_cell? _ _ hw279_0; first | rwa [add_block] at this | exact this) GW286.out)) | (dsimp only; exact Nat.ne_of_lt (Nat.lt_of_lt_of_le (by have := World.block_lt_of_cell? _ _ hw279_0; first | rwa [add_block] at this | exact this) GW286.out))) _).trans (((cell_far (p := ⟨gb286, _, none⟩) (by first | exact Nat.ne_of_lt (Nat.lt_of_lt_of_le (by have := World.block_lt_of_cell? _ _ hw279_0; first | rwa [add_block] at this | exact this) GW286.out) | (rw [add_block]; exact Nat.ne_of_lt (Nat.lt_of_lt_of_le (by have := World.block_lt_of_cell? _ _ hw279_0; first | rwa [add_block] at this | exact this) GW286.out)) | (show (Addr.add _ _).block ≠ _; rw [add_block]; exact Nat.ne_of_lt (Nat.lt_of_lt_of_le (by have := World.block_lt_of_cell? _ _ hw279_0; first | rwa [add_block] at this | exact this) GW286.out)) | (dsimp only; exact Nat.ne_of_lt (Nat.lt_of_lt_of_le (by have := World.block_lt_of_cell? _ _ hw279_0; first | rwa [add_block] at this | exact this) GW286.out))) _).trans (((cell_far (p := ⟨gb286, _, none⟩) (by first | exact Nat.ne_of_lt (Nat.lt_of_lt_of_le (by have := World.block_lt_of_cell? _ _ hw279_0; first | rwa [add_block] at this | exact this) GW286.out) | (rw [add_block]; exact Nat.ne_of_lt (Nat.lt_of_lt_of_le (by have := World.block_lt_of_cell? _ _ hw279_0; first | rwa [add_block] at this | exact this) GW286.out)) | (show (Addr.add _ _).block ≠ _; rw [add_block]; exact Nat.ne_of_lt (Nat.lt_of_lt_of_le (by have := World.block_lt_of_cell? _ _ hw279_0; first | rwa [add_block] at this | exact this) GW286.out)) | (dsimp only; exact Nat.ne_of_lt (Nat.lt_of_lt_of_le (by have := World.block_lt_of_cell? _ _ hw279_0; first | rwa [add_block] at this | exact this) GW286.out))) _).trans (((cell_far (p := ⟨gb286, _, none⟩) (by first | exact Nat.ne_of_lt (Nat.lt_of_lt_of_le (by have := World.block_lt_of_cell? _ _ hw279_0; first | rwa [add_block] at this | exact this) GW286.out) | (rw [add_block]; exact Nat.ne_of_lt (Nat.lt_of_lt_of_le (by have := World.block_lt_of_cell? _ _ hw279_0; first | rwa [add_block] at this | exact this) GW286.out)) | (show (Addr.add _ _).block ≠ _; rw [add_block]; exact Nat.ne_of_lt (Nat.lt_of_lt_of_le (by have := World.block_lt_of_cell? _ _ hw279_0; first | rwa [add_block] at this | exact this) GW286.out)) | (dsimp only; exact Nat.ne_of_lt (Nat.lt_of_lt_of_le (by have := World.block_lt_of_cell? _ _ hw279_0; first | rwa [add_block] at this | exact this) GW286.out))) _).trans (hHeld.2.2.2.2.2.2.2.2.2.2.2.2.2.2.1)))))))))), ((cell_far (p := ⟨gb286, _, none⟩) (by first | exact Nat.ne_of_lt (Nat.lt_of_lt_of_le (by have := World.block_lt_of_cell? _ _ hw279_1; first | rwa [add_block] at this | exact this) GW286.out) | (rw [add_block]; exact Nat.ne_of_lt (Nat.lt_of_lt_of_le (by have := World.block_lt_of_cell? _ _ hw279_1; first | rwa [add_block] at this | exact this) GW286.out)) | (show (Addr.add _ _).block ≠ _; rw [add_block]; exact Nat.ne_of_lt (Nat.lt_of_lt_of_le (by have := World.block_lt_of_cell? _ _ hw279_1; first | rwa [add_block] at this | exact this) GW286.out)) | (dsimp only; exact Nat.ne_of_lt (Nat.lt_of_lt_of_le (by have := World.block_lt_of_cell? _ _ hw279_1; first | rwa [add_block] at this | exact this) GW286.out))) _).trans (((cell_far (p := ⟨gb286, _, none⟩) (by first | exact Nat.ne_of_lt (Nat.lt_of_lt_of_le (by have := World.block_lt_of_cell? _ _ hw279_1; first | rwa [add_block] at this | exact this) GW286.out) | (rw [add_block]; exact Nat.ne_of_lt (Nat.lt_of_lt_of_le (by have := World.block_lt_of_cell? _ _ hw279_1; first | rwa [add_block] at this | exact this) GW286.out)) | (show (Addr.add _ _).block ≠ _; rw [add_block]; exact Nat.ne_of_lt (Nat.lt_of_lt_of_le (by have := World.block_lt_of_cell? _ _ hw279_1; first | rwa [add_block] at this | exact this) GW286.out)) | (dsimp only; exact Nat.ne_of_lt (Nat.lt_of_lt_of_le (by have := World.block_lt_of_cell? _ _ hw279_1; first | rwa [add_block] at this | exact this) GW286.out))) _).trans (((cell_far (p := ⟨gb286, _, none⟩) (by first | exact Nat.ne_of_lt (Nat.lt_of_lt_of_le (by have := World.block_lt_of_cell? _ _ hw279_1; first | rwa [add_block] at this | exact this) GW286.out) | (rw [add_block]; exact Nat.ne_of_lt (Nat.lt_of_lt_of_le (by have := World.block_lt_of_cell? _ _ hw279_1; first | rwa [add_block] at this | exact this) GW286.out)) | (show (Addr.add _ _).block ≠ _; rw [add_block]; exact Nat.ne_of_lt (Nat.lt_of_lt_of_le (by have := World.block_lt_of_cell? _ _ hw279_1; first | rwa [add_block] at this | exact this) GW286.out)) | (dsimp only; exact Nat.ne_of_lt (Nat.lt_of_lt_of_le (by have := World.block_lt_of_cell? _ _ hw279_1; first | rwa [add_block] at this | exact this) GW286.out))) _).trans (((cell_far (p := ⟨gb286, _, none⟩) (by first | exact Nat.ne_of_lt (Nat.lt_of_lt_of_le (by have := World.block_lt_of_cell? _ _ hw279_1; first | rwa [add_block] at this | exact this) GW286.out) | (rw [add_block]; exact Nat.ne_of_lt (Nat.lt_of_lt_of_le (by have := World.block_lt_of_cell? _ _ hw279_1; first | rwa [add_block] at this | exact this) GW286.out)) | (show (Addr.add _ _).block ≠ _; rw [add_block]; exact Nat.ne_of_lt (Nat.lt_of_lt_of_le (by have := World.block_lt_of_cell? _ _ hw279_1; first | rwa [add_block] at this | exact this) GW286.out)) | (dsimp only; exact Nat.ne_of_lt (Nat.lt_of_lt_of_le (by have := World.block_lt_of_cell? _ _ hw279_1; first | rwa [add_block] at this | exact this) GW286.out))) _).trans (((cell_far (p := ⟨gb286, _, none⟩) (by first | exact Nat.ne_of_lt (Nat.lt_of_lt_of_le (by have := World.block_lt_of_cell? _ _ hw279_1; first | rwa [add_block] at this | exact this) GW286.out) | (rw [add_block]; exact Nat.ne_of_lt (Nat.lt_of_lt_of_le (by have := World.block_lt_of_cell? _ _ hw279_1; first | rwa [add_block] at this | exact this) GW286.out)) | (show (Addr.add _ _).block ≠ _; rw [add_block]; exact Nat.ne_of_lt (Nat.lt_of_lt_of_le (by have := World.block_lt_of_cell? _ _ hw279_1; first | rwa [add_block] at this | exact this) GW286.out)) | (dsimp only; exact Nat.ne_of_lt (Nat.lt_of_lt_of_le (by have := World.block_lt_of_cell? _ _ hw279_1; first | rwa [add_block] at this | exact this) GW286.out))) _).trans (hHeld.2.2.2.2.2.2.2.2.2.2.2.2.2.2.2.1)))))))))), ((cell_far (p := ⟨gb286, _, none⟩) (by first | exact Nat.ne_of_lt (Nat.lt_of_lt_of_le (by have := World.block_lt_of_cell? _ _ hw279_2; first | rwa [add_block] at this | exact this) GW286.out) | (rw [add_block]; exact Nat.ne_of_lt (Nat.lt_of_lt_of_le (by have := World.block_lt_of_cell? _ _ hw279_2; first | rwa [add_block] at this | exact this) GW286.out)) | (show (Addr.add _ _).block ≠ _; rw [add_block]; exact Nat.ne_of_lt (Nat.lt_of_lt_of_le (by have := World.block_lt_of_cell? _ _ hw279_2; first | rwa [add_block] at this | exact this) GW286.out)) | (dsimp only; exact Nat.ne_of_lt (Nat.lt_of_lt_of_le (by have := World.block_lt_of_cell? _ _ hw279_2; first | rwa [add_block] at this | exact this) GW286.out))) _).trans (((cell_far (p := ⟨gb286, _, none⟩) (by first | exact Nat.ne_of_lt (Nat.lt_of_lt_of_le (by have := World.block_lt_of_cell? _ _ hw279_2; first | rwa [add_block] at this | exact this) GW286.out) | (rw [add_block]; exact Nat.ne_of_lt (Nat.lt_of_lt_of_le (by have := World.block_lt_of_cell? _ _ hw279_2; first | rwa [add_block] at this | exact this) GW286.out)) | (show (Addr.add _ _).block ≠ _; rw [add_block]; exact Nat.ne_of_lt (Nat.lt_of_lt_of_le (by have := World.block_lt_of_cell? _ _ hw279_2; first | rwa [add_block] at this | exact this) GW286.out)) | (dsimp only; exact Nat.ne_of_lt (Nat.lt_of_lt_of_le (by have := World.block_lt_of_cell? _ _ hw279_2; first | rwa [add_block] at this | exact this) GW286.out))) _).trans (((cell_far (p := ⟨gb286, _, none⟩) (by first | exact Nat.ne_of_lt (Nat.lt_of_lt_of_le (by have := World.block_lt_of_cell? _ _ hw279_2; first | rwa [add_block] at this | exact this) GW286.out) | (rw [add_block]; exact Nat.ne_of_lt (Nat.lt_of_lt_of_le (by have := World.block_lt_of_cell? _ _ hw279_2; first | rwa [add_block] at this | exact this) GW286.out)) | (show (Addr.add _ _).block ≠ _; rw [add_block]; exact Nat.ne_of_lt (Nat.lt_of_lt_of_le (by have := World.block_lt_of_cell? _ _ hw279_2; first | rwa [add_block] at this | exact this) GW286.out)) | (dsimp only; exact Nat.ne_of_lt (Nat.lt_of_lt_of_le (by have := World.block_lt_of_cell? _ _ hw279_2; first | rwa [add_block] at this | exact this) GW286.out))) _).trans (((cell_far (p := ⟨gb286, _, none⟩) (by first | exact Nat.ne_of_lt (Nat.lt_of_lt_of_le (by have := World.block_lt_of_cell? _ _ hw279_2; first | rwa [add_block] at this | exact this) GW286.out) | (rw [add_block]; exact Nat.ne_of_lt (Nat.lt_of_lt_of_le (by have := World.block_lt_of_cell? _ _ hw279_2; first | rwa [add_block] at this | exact this) GW286.out)) | (show (Addr.add _ _).block ≠ _; rw [add_block]; exact Nat.ne_of_lt (Nat.lt_of_lt_of_le (by have := World.block_lt_of_cell? _ _ hw279_2; first | rwa [add_block] at this | exact this) GW286.out)) | (dsimp only; exact Nat.ne_of_lt (Nat.lt_of_lt_of_le (by have := World.block_lt_of_cell? _ _ hw279_2; first | rwa [add_block] at this | exact this) GW286.out))) _).trans (((cell_far (p := ⟨gb286, _, none⟩) (by first | exact Nat.ne_of_lt (Nat.lt_of_lt_of_le (by have := World.block_lt_of_cell? _ _ hw279_2; first | rwa [add_block] at this | exact this) GW286.out) | (rw [add_block]; exact Nat.ne_of_lt (Nat.lt_of_lt_of_le (by have := World.block_lt_of_cell? _ _ hw279_2; first | rwa [add_block] at this | exact this) GW286.out)) | (show (Addr.add _ _).block ≠ _; rw [add_block]; exact Nat.ne_of_lt (Nat.lt_of_lt_of_le (by have := World.block_lt_of_cell? _ _ hw279_2; first | rwa [add_block] at this | exact this) GW286.out)) | (dsimp only; exact Nat.ne_of_lt (Nat.lt_of_lt_of_le (by have := World.block_lt_of_cell? _ _ hw279_2; first | rwa [add_block] at this | exact this) GW286.out))) _).trans (hHeld.2.2.2.2.2.2.2.2.2.2.2.2.2.2.2.2))))))))))⟩ (fun hHeld => ?_)
         clear hK K
         refine pA_ 23 12 ?_ (b_ 24 16777215) (any_of HT_.out (by kernel_rfl)) rfl rfl (fun _ _ _ h => h) (by rfl) ?_ ?_ ?_ ?_
         rotate_left
         ·
          intro w'
          go_simp
          with_reducible rfl
         rotate_left
         ·
          simp only [Act.put, sa_, s0_, s1_, i64_w, i32_w]
          rfl
         refine done_ (done_of HT_.out (by kernel_rfl)) ?_
         try go_wp2
         go_roundg k2
         case measure => have := HJ4.out; have := HK2.out; omega
         case rel => exact ⟨(x8_2), (wrap64 (x10_2 + 1)), (x275000_2), (x275001_2), (x275002_2), (x275003_2), (x275004_2), (by first | rfl | (simp; done) | (simp [*]; done)), (by first | rfl | (simp; done) | (simp [*]; done)), H', ⟨by have := HJ4.out; have := HK2.out; omega⟩, ⟨by (with_reducible repeat (first | refine blk_drewN ?_ _ | refine blk_drew ?_ | refine blk_alloc ?_ _)); refine blk_far ?_ NB273_286.out _; (with_reducible repeat (first | refine blk_drewN ?_ _ | refine blk_drew ?_ | refine blk_alloc ?_ _)); refine blk_far ?_ NB273_286.out _; (with_reducible repeat (first | refine blk_drewN ?_ _ | refine blk_drew ?_ | refine blk_alloc ?_ _)); refine blk_far ?_ NB273_286.out _; (with_reducible repeat (first | refine blk_drewN ?_ _ | refine blk_drew ?_ | refine blk_alloc ?_ _)); refine blk_far ?_ NB273_286.out _; (with_reducible repeat (first | refine blk_drewN ?_ _ | refine blk_drew ?_ | refine blk_alloc ?_ _)); refine blk_far ?_ NB273_286.out _; (with_reducible repeat (first | refine blk_drewN ?_ _ | refine blk_drew ?_ | refine blk_alloc ?_ _)); exact BK273.out⟩, ⟨by (with_reducible repeat (first | refine blk_drewN ?_ _ | refine blk_drew ?_ | refine blk_alloc ?_ _)); refine blk_far ?_ NB274_286.out _; (with_reducible repeat (first | refine blk_drewN ?_ _ | refine blk_drew ?_ | refine blk_alloc ?_ _)); refine blk_far ?_ NB274_286.out _; (with_reducible repeat (first | refine blk_drewN ?_ _ | refine blk_drew ?_ | refine blk_alloc ?_ _)); refine blk_far ?_ NB274_286.out _; (with_reducible repeat (first | refine blk_drewN ?_ _ | refine blk_drew ?_ | refine blk_alloc ?_ _)); refine blk_far ?_ NB274_286.out _; (with_reducible repeat (first | refine blk_drewN ?_ _ | refine blk_drew ?_ | refine blk_alloc ?_ _)); refine blk_far ?_ NB274_286.out _; (with_reducible repeat (first | refine blk_drewN ?_ _ | refine blk_drew ?_ | refine blk_alloc ?_ _)); exact BK274.out⟩, ⟨by repeat (first | (with_reducible first | exact HB.out | apply below_alloc | apply pw_below_drewN | apply below_drew1 | refine below_set ?_ GE273.out | refine below_set ?_ GE274.out | refine below_set ?_ GE286.out) | exact HB.out)⟩⟩
       ·
        rw [if_neg c29] at H
        exact absurd H (by simp)
      ·
       rw [if_neg c28] at H
       have c28b0 : decide (x10_2 < (l2.length : Int)) = false := decide_eq_false c28
       clear c28
       by_cases c101 : (wrap64 (a1_1 + x8_2)) = x275001_2
       ·
        rw [if_pos c101] at H
        have c101b0 : ((wrap64 (a1_1 + x8_2)) == x275001_2) = true := beq_iff_eq.mpr c101
        have c101b1 : ((wrap64 (a1_1 + x8_2)) != x275001_2) = false := bne_eq_false_iff_eq.mpr c101
        clear c101
        obtain rfl := Option.some.inj H
        have hnb102 := NB274_273.out
        have hnc102 := NB273_274.out
        have hcz103_0 : wr.cell? ⟨gb274, 0, none⟩ = some (.int .u8 x275000_2) := (blk_cell BK274.out 0).trans rfl
        have hcz103_1 : wr.cell? ⟨gb274, 1, none⟩ = some (.int .i64 x275001_2) := (blk_cell BK274.out 1).trans rfl
        have hcz103_2 : wr.cell? ⟨gb274, 2, none⟩ = some (.int .i64 x275002_2) := (blk_cell BK274.out 2).trans rfl
        have hcz103_3 : wr.cell? ⟨gb274, 3, none⟩ = some (.int .i64 x275003_2) := (blk_cell BK274.out 3).trans rfl
        have hcz103_4 : wr.cell? ⟨gb274, 4, none⟩ = some (.int .i64 x275004_2) := (blk_cell BK274.out 4).trans rfl
        have hfz103_0 := blk_frozen BK274.out 0
        have hfz103_1 := blk_frozen BK274.out 1
        have hfz103_2 := blk_frozen BK274.out 2
        have hfz103_3 := blk_frozen BK274.out 3
        have hfz103_4 := blk_frozen BK274.out 4
        have hcz104_0 : wr.cell? ⟨gb273, 0, none⟩ = some (.slice A0_0 l0_0.length c0_0) := (blk_cell BK273.out 0).trans rfl
        have hcz104_1 : wr.cell? ⟨gb273, 1, none⟩ = some (.int .i64 a0_1) := (blk_cell BK273.out 1).trans rfl
        have hcz104_2 : wr.cell? ⟨gb273, 2, none⟩ = some (.int .i64 a0_2) := (blk_cell BK273.out 2).trans rfl
        have hfz104_0 := blk_frozen BK273.out 0
        have hfz104_1 := blk_frozen BK273.out 1
        have hfz104_2 := blk_frozen BK273.out 2
        go_wp2
        go_ret
        exact ⟨by first | rfl | (simp [errW_none, errW_some] <;> rfl) | (simp [*, errW_none, errW_some] <;> rfl) | exact ret_ie _ | (simp [*, errW_none, errW_some, bne]; done), by repeat (first | (with_reducible first | exact HB.out | apply below_alloc | apply pw_below_drewN | apply below_drew1 | refine below_set ?_ GE273.out | refine below_set ?_ GE274.out) | exact HB.out)⟩
       ·
        rw [if_neg c101] at H
        have c101b0 : ((wrap64 (a1_1 + x8_2)) == x275001_2) = false := beq_eq_false_iff_ne.mpr c101
        have c101b1 : ((wrap64 (a1_1 + x8_2)) != x275001_2) = true := bne_iff_ne.mpr c101
        exact absurd ((Option.some.inj H).trans hr) (by decide)

end Go.Proofs.Ytbgfjhnbmfgccaa.R

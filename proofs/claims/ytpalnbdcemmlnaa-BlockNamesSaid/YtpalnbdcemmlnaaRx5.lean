/- Contracts of Go functions and what they come to, over the translation of this seat: made by a program of this session (print2.py). -/
import Derived.Test.YtpalnbdcemmlnaaRx0
import Derived.Test.YtpalnbdcemmlnaaRx4
namespace Go.Proofs.Ytpalnbdcemmlnaa.R
open Go.RowKit Go.Proofs.Ytpalnbdcemmlnaa.Co Go.Proofs.Ytpalnbdcemmlnaa.Ret Go.Proofs.Ytpalnbdcemmlnaa.Plain Go.Proofs.Ytpalnbdcemmlnaa.Box Go.Proofs.YtpalnbdcemmlnaaW.PrintWords Go.Proofs.YtpalnbdcemmlnaaW.PrintLast Go.Proofs.YtpalnbdcemmlnaaW.PrintMore
attribute [local go_sem] max2_int min2_int max_two min_two max_three min_three max_four min_four   -- for this text's walks alone
set_option linter.unusedVariables false
set_option linter.unusedSimpArgs false

/-! ### millhandref12_Ordered: function 23 -/
def millhandref12_Ordered.l0 : Nat → List (S39) → Int → Option (Bool)
 | 0, _, _ => none
 | k + 1, x0, x3 => if x3 < (x0.length : Int) then (if 0 ≤ x3 then ((millhandref12_May.f ((rd_T39 x0 x3).f0) ((rd_T39 x0 x3).f1) ((rd_T39 x0 x3).f2) ((rd_T39 x0 x3).f3)).bind fun t164 => (if t164 = true then (if x3 > 0 then (if 0 ≤ (wrap64 (x3 - 1)) then (if (wrap64 (x3 - 1)) < (x0.length : Int) then ((millhandref12_Ahead.f ((rd_T39 x0 (wrap64 (x3 - 1))).f0) ((rd_T39 x0 (wrap64 (x3 - 1))).f1) ((rd_T39 x0 (wrap64 (x3 - 1))).f2) ((rd_T39 x0 (wrap64 (x3 - 1))).f3) ((rd_T39 x0 x3).f0) ((rd_T39 x0 x3).f1) ((rd_T39 x0 x3).f2) ((rd_T39 x0 x3).f3)).bind fun t167 => (if t167 = true then (millhandref12_Ordered.l0 k x0 (wrap64 (x3 + 1))) else (some false))) else (none)) else (none)) else (millhandref12_Ordered.l0 k x0 (wrap64 (x3 + 1)))) else (some false))) else (none)) else (some true)
def millhandref12_Ordered.f (k : Nat) (l0 : List (S39)) : Option (Bool) := millhandref12_Ordered.l0 k l0 0
theorem millhandref12_Ordered.mono_l : ∀ k, (∀ y0 y1, LeO (millhandref12_Ordered.l0 k y0 y1) (millhandref12_Ordered.l0 (k + 1) y0 y1))
 | 0 => fun _ _ r h => by simp [millhandref12_Ordered.l0] at h
 | k + 1 => by
  have ih0 := millhandref12_Ordered.mono_l k
  ·
   intro y0 y1
   unfold millhandref12_Ordered.l0
   repeat' first
   | (with_reducible exact ih0 _ _)
   | (with_reducible exact LeO.refl _)
   | (with_reducible exact LeO.none _)
   | (with_reducible refine LeO.ite ?_ ?_)
   | (with_reducible refine LeO.bind ?_ (fun _ => ?_))
   | exact ih0 _ _
   | exact LeO.none _
   | refine LeO.ite ?_ ?_
   | refine LeO.bind ?_ (fun _ => ?_)
theorem millhandref12_Ordered.mono : ∀ a0 k, LeO (millhandref12_Ordered.f k a0) (millhandref12_Ordered.f (k + 1) a0) := by
 intro a0 k
 have ih0 := millhandref12_Ordered.mono_l k
 unfold millhandref12_Ordered.f
 repeat' first
   | (with_reducible exact ih0 _ _)
   | (with_reducible exact LeO.refl _)
   | (with_reducible exact LeO.none _)
   | (with_reducible refine LeO.ite ?_ ?_)
   | (with_reducible refine LeO.bind ?_ (fun _ => ?_))
   | exact ih0 _ _
   | exact LeO.none _
   | refine LeO.ite ?_ ?_
   | refine LeO.bind ?_ (fun _ => ?_)
def millhandref12_Ordered.T4 : Bool × List (List Nat × List Nat) := (true, [([], []), ([], []), ([0, 1], [0, 1]), ([2], [2]), ([3], [3]), ([4], [4]), ([5, 4], [5]), ([6], [6]), ([7, 6], [6, 7]), ([8, 6, 6], [6, 8]), ([9], [9]), ([9], [9]), ([11, 9], [9, 11]), ([10, 12, 9], [9, 10, 12]), ([13, 9], [9, 13]), ([9], [9]), ([9], [9]), ([15, 16, 9], [9, 15, 16]), ([17, 9], [9, 17]), ([14, 18, 9, 9], [9, 14, 18]), ([19, 9], [9, 19]), ([9, 20, 6], [6, 9, 20]), ([6, 21], [6, 21])])
def millhandref12_Ordered.B4 : List Nat := [0, 0, 3, 7, 15, 31, 63, 127, 255, 511, 1023, 1023, 3071, 8191, 16383, 1023, 1023, 99327, 230399, 524287, 1048575, 2097151, 4194303]
theorem millhandref12_Ordered.tab4 : rtab .any (opsOf Try.f23 4) = millhandref12_Ordered.T4 := by kernel_rfl
theorem millhandref12_Ordered.bits4 : waitsOk millhandref12_Ordered.T4.2 millhandref12_Ordered.B4 = true := by kernel_rfl
set_option maxHeartbeats 8000000 in
set_option maxRecDepth 100000 in
theorem millhandref12_Ordered.calls (k : Nat) (A0 : Option Addr) (c0 : Nat) (l0 : List (S39)) (r : Bool) (w : World) (hr0 : Kd.C k39 w A0 l0.length l0) (hc0 : l0.length ≤ c0) (h : millhandref12_Ordered.f k l0 = some r) :
  Calls Try.prog 23 #[.slice A0 l0.length c0] w fun e w' => e = .returned (.bool r) ∧ Below w.heap.size w w' := by
 have hu39 := Try.underlying39
 have HR0 := Aside0.mk hr0
 have HC0 := Aside0.mk hc0
 clear hr0 hc0
 have HB := Aside0.mk (Below.refl w.heap.size w)
 have H : (millhandref12_Ordered.l0 k l0 0) = some r := h
 clear h
 have H' := Aside0.mk H
 clear H
 go_enter Try.func23, Try.ntmps23
 go_wp2
 go_loopg [3] k (fun kq v3 w' => ∃ (x3_1 : Int), v3 = .int .i64 x3_1 ∧ Aside0 (millhandref12_Ordered.l0 kq l0 x3_1 = some r) ∧ Aside0 (kq ≤ k) ∧ Aside0 (Below w.heap.size w w'))
 case atStart => exact ⟨(0), (by first | rfl | (simp; done) | (simp [*]; done)), H', ⟨Nat.le_refl _⟩, ⟨by repeat (first | (with_reducible first | exact HB.out | apply below_alloc | apply pw_below_drewN | apply below_drew1) | exact HB.out)⟩⟩
 case round =>
  clear H'
  obtain ⟨x3_1, rfl, HA, HK1, HB⟩ := hrel
  cases gk with
  | zero => exact absurd HA.out (by simp [millhandref12_Ordered.l0])
  | succ k1 =>
   have H := HA.out
   clear HA
   simp only [millhandref12_Ordered.l0] at H
   by_cases c2 : x3_1 < (l0.length : Int)
   ·
    rw [if_pos c2] at H
    have c2b0 : decide (x3_1 < (l0.length : Int)) = true := decide_eq_true c2
    clear c2
    by_cases c3 : 0 ≤ x3_1
    ·
     rw [if_pos c3] at H
     have c3b0 : decide (0 ≤ x3_1) = true := decide_eq_true c3
     clear c3
     replace H := Option.bind_eq_some_iff.mp H
     obtain ⟨t164, A40, H⟩ := H
     replace H : (if t164 = true then (if x3_1 > 0 then (if 0 ≤ (wrap64 (x3_1 - 1)) then (if (wrap64 (x3_1 - 1)) < (l0.length : Int) then ((millhandref12_Ahead.f ((rd_T39 l0 (wrap64 (x3_1 - 1))).f0) ((rd_T39 l0 (wrap64 (x3_1 - 1))).f1) ((rd_T39 l0 (wrap64 (x3_1 - 1))).f2) ((rd_T39 l0 (wrap64 (x3_1 - 1))).f3) ((rd_T39 l0 x3_1).f0) ((rd_T39 l0 x3_1).f1) ((rd_T39 l0 x3_1).f2) ((rd_T39 l0 x3_1).f3)).bind fun t167 => (if t167 = true then (millhandref12_Ordered.l0 k1 l0 (wrap64 (x3_1 + 1))) else (some false))) else (none)) else (none)) else (millhandref12_Ordered.l0 k1 l0 (wrap64 (x3_1 + 1)))) else (some false)) = some r := H
     have A4 := Aside0.mk A40
     clear A40
     by_cases c5 : t164 = true
     ·
      subst c5
      have H1 : (if x3_1 > 0 then (if 0 ≤ (wrap64 (x3_1 - 1)) then (if (wrap64 (x3_1 - 1)) < (l0.length : Int) then ((millhandref12_Ahead.f ((rd_T39 l0 (wrap64 (x3_1 - 1))).f0) ((rd_T39 l0 (wrap64 (x3_1 - 1))).f1) ((rd_T39 l0 (wrap64 (x3_1 - 1))).f2) ((rd_T39 l0 (wrap64 (x3_1 - 1))).f3) ((rd_T39 l0 x3_1).f0) ((rd_T39 l0 x3_1).f1) ((rd_T39 l0 x3_1).f2) ((rd_T39 l0 x3_1).f3)).bind fun t167 => (if t167 = true then (millhandref12_Ordered.l0 k1 l0 (wrap64 (x3_1 + 1))) else (some false))) else (none)) else (none)) else (millhandref12_Ordered.l0 k1 l0 (wrap64 (x3_1 + 1)))) = some r := by rw [if_pos rfl] at H; exact H
      clear H
      have H := H1
      clear H1
      by_cases c6 : x3_1 > 0
      ·
       rw [if_pos c6] at H
       have c6b0 : decide (0 < x3_1) = true := decide_eq_true c6
       clear c6
       obtain ⟨ji7, hji7⟩ : ∃ j_ : Int, (wrap64 (x3_1 - 1)) = j_ := ⟨_, rfl⟩
       replace H : (if 0 ≤ (ji7) then (if (ji7) < (l0.length : Int) then ((millhandref12_Ahead.f ((rd_T39 l0 (ji7)).f0) ((rd_T39 l0 (ji7)).f1) ((rd_T39 l0 (ji7)).f2) ((rd_T39 l0 (ji7)).f3) ((rd_T39 l0 x3_1).f0) ((rd_T39 l0 x3_1).f1) ((rd_T39 l0 x3_1).f2) ((rd_T39 l0 x3_1).f3)).bind fun t167 => (if t167 = true then (millhandref12_Ordered.l0 k1 l0 (wrap64 (x3_1 + 1))) else (some false))) else (none)) else (none)) = some r := by first | (rw [hji7] at H; exact H) | (simp only [hji7] at H ⊢; exact H)
       (try rw [hji7] at A4)
       have hji7w : (IntKind.i64.wrap (x3_1 - 1)) = ji7 := (i64_w _).trans hji7
       by_cases c8 : 0 ≤ (ji7)
       ·
        rw [if_pos c8] at H
        have c8b0 : decide (0 ≤ (ji7)) = true := decide_eq_true c8
        clear c8
        by_cases c9 : (ji7) < (l0.length : Int)
        ·
         rw [if_pos c9] at H
         have c9b0 : decide ((ji7) < (l0.length : Int)) = true := decide_eq_true c9
         clear c9
         replace H := Option.bind_eq_some_iff.mp H
         obtain ⟨t167, A100, H⟩ := H
         replace H : (if t167 = true then (millhandref12_Ordered.l0 k1 l0 (wrap64 (x3_1 + 1))) else (some false)) = some r := H
         have A10 := Aside0.mk A100
         clear A100
         by_cases c11 : t167 = true
         ·
          subst c11
          have H1 : (millhandref12_Ordered.l0 k1 l0 (wrap64 (x3_1 + 1))) = some r := by rw [if_pos rfl] at H; exact H
          clear H
          have H := H1
          clear H1
          have H' := Aside0.mk H
          clear H
          try go_wp2
          have n0_ := Aside0.mk (below_drew1 HB.out)
          clear HB
          have HB := n0_
          clear n0_
          have p163 : 0 ≤ (x3_1 : Int) := of_decide_eq_true (by first | (with_reducible assumption) | assumption)
          have q163 : x3_1 < (l0.length : Int) := of_decide_eq_true (by first | (with_reducible assumption) | assumption)
          obtain ⟨ad163, e163, hx163_0, hx163_1, hx163_2, hx163_3⟩ := at_T39 HR0.out x3_1 p163 q163
          have hw163_3 := hx163_3
          have hw163_2 := hx163_2
          have hw163_1 := hx163_1
          have hw163_0 := hx163_0
          cases e163
          replace hx163_0 := cl_ HB.out hx163_0
          replace hx163_1 := cl_ HB.out hx163_1
          replace hx163_2 := cl_ HB.out hx163_2
          replace hx163_3 := cl_ HB.out hx163_3
          replace p163 := eq_true p163
          replace q163 := eq_true q163
          have p165 : 0 ≤ ((ji7) : Int) := of_decide_eq_true (by first | (with_reducible assumption) | assumption)
          have q165 : (ji7) < (l0.length : Int) := of_decide_eq_true (by first | (with_reducible assumption) | assumption)
          obtain ⟨ad165, e165, hx165_0, hx165_1, hx165_2, hx165_3⟩ := at_T39 HR0.out (ji7) p165 q165
          have hw165_3 := hx165_3
          have hw165_2 := hx165_2
          have hw165_1 := hx165_1
          have hw165_0 := hx165_0
          obtain rfl : ad163 = ad165 := (by injection e165)
          replace hx165_0 := cl_ HB.out hx165_0
          replace hx165_1 := cl_ HB.out hx165_1
          replace hx165_2 := cl_ HB.out hx165_2
          replace hx165_3 := cl_ HB.out hx165_3
          replace p165 := eq_true p165
          replace q165 := eq_true q165
          have p166 : 0 ≤ (x3_1 : Int) := of_decide_eq_true (by first | (with_reducible assumption) | assumption)
          have q166 : x3_1 < (l0.length : Int) := of_decide_eq_true (by first | (with_reducible assumption) | assumption)
          obtain ⟨ad166, e166, hx166_0, hx166_1, hx166_2, hx166_3⟩ := at_T39 HR0.out x3_1 p166 q166
          have hw166_3 := hx166_3
          have hw166_2 := hx166_2
          have hw166_1 := hx166_1
          have hw166_0 := hx166_0
          obtain rfl : ad163 = ad166 := (by injection e166)
          replace hx166_0 := cl_ HB.out hx166_0
          replace hx166_1 := cl_ HB.out hx166_1
          replace hx166_2 := cl_ HB.out hx166_2
          replace hx166_3 := cl_ HB.out hx166_3
          replace p166 := eq_true p166
          replace q166 := eq_true q166
          refine start_ (n := 23) (S := fun w' => w'.cell? (ad163.add ((x3_1).toNat * 4)) = some (.string ((rd_T39 l0 x3_1).f0)) ∧ w'.cell? ⟨(ad163.add ((x3_1).toNat * 4)).block, (ad163.add ((x3_1).toNat * 4)).off + 1, none⟩ = some (.int .i64 ((rd_T39 l0 x3_1).f1)) ∧ w'.cell? ⟨(ad163.add ((x3_1).toNat * 4)).block, (ad163.add ((x3_1).toNat * 4)).off + 2, none⟩ = some (.bool ((rd_T39 l0 x3_1).f2)) ∧ w'.cell? ⟨(ad163.add ((x3_1).toNat * 4)).block, (ad163.add ((x3_1).toNat * 4)).off + 3, none⟩ = some (.string ((rd_T39 l0 x3_1).f3)) ∧ w'.cell? (ad163.add (((ji7)).toNat * 4)) = some (.string ((rd_T39 l0 (ji7)).f0)) ∧ w'.cell? ⟨(ad163.add (((ji7)).toNat * 4)).block, (ad163.add (((ji7)).toNat * 4)).off + 1, none⟩ = some (.int .i64 ((rd_T39 l0 (ji7)).f1)) ∧ w'.cell? ⟨(ad163.add (((ji7)).toNat * 4)).block, (ad163.add (((ji7)).toNat * 4)).off + 2, none⟩ = some (.bool ((rd_T39 l0 (ji7)).f2)) ∧ w'.cell? ⟨(ad163.add (((ji7)).toNat * 4)).block, (ad163.add (((ji7)).toNat * 4)).off + 3, none⟩ = some (.string ((rd_T39 l0 (ji7)).f3)) ∧ w'.cell? (ad163.add ((x3_1).toNat * 4)) = some (.string ((rd_T39 l0 x3_1).f0)) ∧ w'.cell? ⟨(ad163.add ((x3_1).toNat * 4)).block, (ad163.add ((x3_1).toNat * 4)).off + 1, none⟩ = some (.int .i64 ((rd_T39 l0 x3_1).f1)) ∧ w'.cell? ⟨(ad163.add ((x3_1).toNat * 4)).block, (ad163.add ((x3_1).toNat * 4)).off + 2, none⟩ = some (.bool ((rd_T39 l0 x3_1).f2)) ∧ w'.cell? ⟨(ad163.add ((x3_1).toNat * 4)).block, (ad163.add ((x3_1).toNat * 4)).off + 3, none⟩ = some (.string ((rd_T39 l0 x3_1).f3))) (ds := []) (b_ 23 0) (by kernel_rfl) rfl rfl ⟨(cl_ HB.out hw163_0), (cl_ HB.out hw163_1), (cl_ HB.out hw163_2), (cl_ HB.out hw163_3), (cl_ HB.out hw165_0), (cl_ HB.out hw165_1), (cl_ HB.out hw165_2), (cl_ HB.out hw165_3), (cl_ HB.out hw166_0), (cl_ HB.out hw166_1), (cl_ HB.out hw166_2), (cl_ HB.out hw166_3)⟩ (fun hHeld => ?_); refine with_tabW millhandref12_Ordered.tab4 millhandref12_Ordered.bits4 (fun HT_ HW_ => ?_)
          generalize wr.drew = w12 at HB hx163_0 hx163_1 hx163_2 hx163_3 hx165_0 hx165_1 hx165_2 hx165_3 hx166_0 hx166_1 hx166_2 hx166_3 hHeld ⊢
          refine pA_ 0 10 ?_ (b_ 23 1) (any_of HT_.out (by kernel_rfl)) rfl rfl (fun _ _ _ h => h) (by rfl) ?_ ?_ ?_ ?_
          rotate_left
          ·
           intro w'
           go_simp
           with_reducible rfl
          rotate_left
          ·
           simp only [Act.put, sa_, s0_, s1_, i64_w, i32_w]
           rfl
          refine pA_ 1 11 ?_ (b_ 23 3) (any_of HT_.out (by kernel_rfl)) rfl rfl (fun _ _ _ h => h) (by rfl) ?_ ?_ ?_ ?_
          rotate_left
          ·
           intro w'
           go_simp
           with_reducible rfl
          rotate_left
          ·
           simp only [Act.put, sa_, s0_, s1_, i64_w, i32_w]
           rfl
          refine pA_ 2 12 ?_ (b_ 23 7) (any_of HT_.out (by kernel_rfl)) rfl rfl (fun _ _ _ h => h) (by rfl) ?_ ?_ ?_ ?_
          rotate_left
          ·
           intro w'
           go_simp
           with_reducible rfl
          rotate_left
          ·
           simp only [Act.put, sa_, s0_, s1_, i64_w, i32_w]
           rfl
          refine tA_ 3 13 ?_ (b_ 23 15) (take_ofW HT_.out HW_.out (by kernel_rfl)) rfl rfl (fun _ _ _ h => h) (by rfl) ?_ hHeld ?_ ?_ ?_
          rotate_left
          ·
           rintro w' ⟨s0, s1, s2, s3, s4, s5, s6, s7, s8, s9, s10, s11⟩
           go_simp
           with_reducible rfl
          rotate_left
          ·
           simp only [Act.put, sa_, s0_, s1_, i64_w, i32_w]
           rfl
          refine one_ (i := 4) (N := some 14) (b_ 23 31) rfl rfl (one_of HT_.out (by kernel_rfl)) (by decide) (fun K hK => ?_)
          refine goes_ Try.func35 (by kernel_rfl) rfl #[.agg #[.string ((rd_T39 l0 x3_1).f0), .int .i64 ((rd_T39 l0 x3_1).f1), .bool ((rd_T39 l0 x3_1).f2), .string ((rd_T39 l0 x3_1).f3)]] (by rfl) rfl rfl (by (try simp only [List.map_toArray, List.map_cons, List.map_nil]); first | done | rfl | (simp only [List.length_drop, List.length_take]; rfl)) ?_
          with_reducible refine (millhandref12_May.calls ((rd_T39 l0 x3_1).f0) ((rd_T39 l0 x3_1).f1) ((rd_T39 l0 x3_1).f2) ((rd_T39 l0 x3_1).f3) true _ A4.out).mono ?_
          rintro e w13 ⟨rfl, hb⟩
          refine ⟨_, rfl, ?_⟩
          have n0_ := Aside0.mk (below_step (by repeat (first | (with_reducible first | exact HB.out | apply below_alloc | apply pw_below_drewN | apply below_drew1) | exact HB.out)) hb)
          clear HB
          have HB := n0_
          clear n0_
          (try clear hb)
          (try clear hb2)
          (try clear hk)
          (try clear hi)
          refine hK.out _ _ ⟨(cl_ HB.out hw163_0), (cl_ HB.out hw163_1), (cl_ HB.out hw163_2), (cl_ HB.out hw163_3), (cl_ HB.out hw165_0), (cl_ HB.out hw165_1), (cl_ HB.out hw165_2), (cl_ HB.out hw165_3), (cl_ HB.out hw166_0), (cl_ HB.out hw166_1), (cl_ HB.out hw166_2), (cl_ HB.out hw166_3)⟩ (fun hHeld => ?_)
          clear hK K
          refine norm_ (a' := ?_) ?_ ?_
          rotate_left
          ·
           show Act.put _ (some 14) _ = _
           simp only [Act.put, sa_, s0_, s1_, i64_w, i32_w]
           rfl
          refine pA_ 5 15 ?_ (b_ 23 63) (any_of HT_.out (by kernel_rfl)) rfl rfl (fun _ _ _ h => h) (by rfl) ?_ ?_ ?_ ?_
          rotate_left
          ·
           intro w'
           go_simp
           with_reducible rfl
          rotate_left
          ·
           simp only [Act.put, sa_, s0_, s1_, i64_w, i32_w]
           rfl
          refine pA_ 6 16 ?_ (b_ 23 127) (any_of HT_.out (by kernel_rfl)) rfl rfl (fun _ _ _ h => h) (by rfl) ?_ ?_ ?_ ?_
          rotate_left
          ·
           intro w'
           go_simp
           with_reducible rfl
          rotate_left
          ·
           simp only [Act.put, sa_, s0_, s1_, i64_w, i32_w]
           rfl
          refine pA_ 7 17 ?_ (b_ 23 255) (any_of HT_.out (by kernel_rfl)) rfl rfl (fun _ _ _ h => h) (by rfl) ?_ ?_ ?_ ?_
          rotate_left
          ·
           intro w'
           go_simp
           with_reducible rfl
          rotate_left
          ·
           simp only [Act.put, sa_, s0_, s1_, i64_w, i32_w]
           rfl
          refine pA_ 8 18 ?_ (b_ 23 511) (any_of HT_.out (by kernel_rfl)) rfl rfl (fun _ _ _ h => h) (by rfl) ?_ ?_ ?_ ?_
          rotate_left
          ·
           intro w'
           go_simp
           with_reducible rfl
          rotate_left
          ·
           simp only [Act.put, sa_, s0_, s1_, i64_w, i32_w]
           rfl
          refine pA_ 9 19 ?_ (b_ 23 1023) (any_of HT_.out (by kernel_rfl)) rfl rfl (fun _ _ _ h => h) (by rfl) ?_ ?_ ?_ ?_
          rotate_left
          ·
           intro w'
           go_simp
           with_reducible rfl
          rotate_left
          ·
           simp only [Act.put, sa_, s0_, s1_, i64_w, i32_w]
           rfl
          refine pA_ 10 20 ?_ (b_ 23 2047) (any_of HT_.out (by kernel_rfl)) rfl rfl (fun _ _ _ h => h) (by rfl) ?_ ?_ ?_ ?_
          rotate_left
          ·
           intro w'
           go_simp
           with_reducible rfl
          rotate_left
          ·
           simp only [Act.put, sa_, s0_, s1_, i64_w, i32_w]
           rfl
          refine pA_ 11 21 ?_ (b_ 23 4095) (any_of HT_.out (by kernel_rfl)) rfl rfl (fun _ _ _ h => h) (by rfl) ?_ ?_ ?_ ?_
          rotate_left
          ·
           intro w'
           go_simp
           with_reducible rfl
          rotate_left
          ·
           simp only [Act.put, sa_, s0_, s1_, i64_w, i32_w]
           rfl
          refine pA_ 12 22 ?_ (b_ 23 8191) (any_of HT_.out (by kernel_rfl)) rfl rfl (fun _ _ _ h => h) (by rfl) ?_ ?_ ?_ ?_
          rotate_left
          ·
           intro w'
           go_simp
           with_reducible rfl
          rotate_left
          ·
           simp only [Act.put, sa_, s0_, s1_, i64_w, i32_w]
           rfl
          refine pA_ 13 23 ?_ (b_ 23 16383) (any_of HT_.out (by kernel_rfl)) rfl rfl (fun _ _ _ h => h) (by rfl) ?_ ?_ ?_ ?_
          rotate_left
          ·
           intro w'
           go_simp
           with_reducible rfl
          rotate_left
          ·
           simp only [Act.put, sa_, s0_, s1_, i64_w, i32_w]
           rfl
          refine pA_ 15 25 ?_ (b_ 23 49151) (any_of HT_.out (by kernel_rfl)) rfl rfl (fun _ _ _ h => h) (by rfl) ?_ ?_ ?_ ?_
          rotate_left
          ·
           intro w'
           go_simp
           with_reducible rfl
          rotate_left
          ·
           simp only [Act.put, sa_, s0_, s1_, i64_w, i32_w]
           rfl
          refine pA_ 16 26 ?_ (b_ 23 114687) (any_of HT_.out (by kernel_rfl)) rfl rfl (fun _ _ _ h => h) (by rfl) ?_ ?_ ?_ ?_
          rotate_left
          ·
           intro w'
           go_simp
           with_reducible rfl
          rotate_left
          ·
           simp only [Act.put, sa_, s0_, s1_, i64_w, i32_w]
           rfl
          refine pA_ 17 27 ?_ (b_ 23 245759) (any_of HT_.out (by kernel_rfl)) rfl rfl (fun _ _ _ h => h) (by rfl) ?_ ?_ ?_ ?_
          rotate_left
          ·
           intro w'
           go_simp
           with_reducible rfl
          rotate_left
          ·
           simp only [Act.put, sa_, s0_, s1_, i64_w, i32_w]
           rfl
          refine tA_ 14 24 ?_ (b_ 23 262143) (take_ofW HT_.out HW_.out (by kernel_rfl)) rfl rfl (fun _ _ _ h => h) (by rfl) ?_ hHeld ?_ ?_ ?_
          rotate_left
          ·
           rintro w' ⟨s0, s1, s2, s3, s4, s5, s6, s7, s8, s9, s10, s11⟩
           go_simp
           with_reducible rfl
          rotate_left
          ·
           simp only [Act.put, sa_, s0_, s1_, i64_w, i32_w]
           rfl
          refine tA_ 18 28 ?_ (b_ 23 524287) (take_ofW HT_.out HW_.out (by kernel_rfl)) rfl rfl (fun _ _ _ h => h) (by rfl) ?_ hHeld ?_ ?_ ?_
          rotate_left
          ·
           rintro w' ⟨s0, s1, s2, s3, s4, s5, s6, s7, s8, s9, s10, s11⟩
           go_simp
           with_reducible rfl
          rotate_left
          ·
           simp only [Act.put, sa_, s0_, s1_, i64_w, i32_w]
           rfl
          refine one_ (i := 19) (N := some 29) (b_ 23 1048575) rfl rfl (one_of HT_.out (by kernel_rfl)) (by decide) (fun K hK => ?_)
          refine goes_ Try.func36 (by kernel_rfl) rfl #[.agg #[.string ((rd_T39 l0 (ji7)).f0), .int .i64 ((rd_T39 l0 (ji7)).f1), .bool ((rd_T39 l0 (ji7)).f2), .string ((rd_T39 l0 (ji7)).f3)], .agg #[.string ((rd_T39 l0 x3_1).f0), .int .i64 ((rd_T39 l0 x3_1).f1), .bool ((rd_T39 l0 x3_1).f2), .string ((rd_T39 l0 x3_1).f3)]] (by rfl) rfl rfl (by (try simp only [List.map_toArray, List.map_cons, List.map_nil]); first | done | (simp only [hji7]; rfl) | rfl | (simp only [List.length_drop, List.length_take]; rfl)) ?_
          with_reducible refine (millhandref12_Ahead.calls ((rd_T39 l0 (ji7)).f0) ((rd_T39 l0 (ji7)).f1) ((rd_T39 l0 (ji7)).f2) ((rd_T39 l0 (ji7)).f3) ((rd_T39 l0 x3_1).f0) ((rd_T39 l0 x3_1).f1) ((rd_T39 l0 x3_1).f2) ((rd_T39 l0 x3_1).f3) true _ A10.out).mono ?_
          rintro e w14 ⟨rfl, hb⟩
          refine ⟨_, rfl, ?_⟩
          have n0_ := Aside0.mk (below_step (by repeat (first | (with_reducible first | exact HB.out | apply below_alloc | apply pw_below_drewN | apply below_drew1) | exact HB.out)) hb)
          clear HB
          have HB := n0_
          clear n0_
          (try clear hb)
          (try clear hb2)
          (try clear hk)
          (try clear hi)
          refine hK.out _ _ ⟨(cl_ HB.out hw163_0), (cl_ HB.out hw163_1), (cl_ HB.out hw163_2), (cl_ HB.out hw163_3), (cl_ HB.out hw165_0), (cl_ HB.out hw165_1), (cl_ HB.out hw165_2), (cl_ HB.out hw165_3), (cl_ HB.out hw166_0), (cl_ HB.out hw166_1), (cl_ HB.out hw166_2), (cl_ HB.out hw166_3)⟩ (fun hHeld => ?_)
          clear hK K
          refine norm_ (a' := ?_) ?_ ?_
          rotate_left
          ·
           show Act.put _ (some 29) _ = _
           simp only [Act.put, sa_, s0_, s1_, i64_w, i32_w]
           rfl
          refine pA_ 20 30 ?_ (b_ 23 2097151) (any_of HT_.out (by kernel_rfl)) rfl rfl (fun _ _ _ h => h) (by rfl) ?_ ?_ ?_ ?_
          rotate_left
          ·
           intro w'
           go_simp
           with_reducible rfl
          rotate_left
          ·
           simp only [Act.put, sa_, s0_, s1_, i64_w, i32_w]
           rfl
          refine pA_ 21 31 ?_ (b_ 23 4194303) (any_of HT_.out (by kernel_rfl)) rfl rfl (fun _ _ _ h => h) (by rfl) ?_ ?_ ?_ ?_
          rotate_left
          ·
           intro w'
           go_simp
           with_reducible rfl
          rotate_left
          ·
           simp only [Act.put, sa_, s0_, s1_, i64_w, i32_w]
           rfl
          refine pA_ 22 32 ?_ (b_ 23 8388607) (any_of HT_.out (by kernel_rfl)) rfl rfl (fun _ _ _ h => h) (by rfl) ?_ ?_ ?_ ?_
          rotate_left
          ·
           intro w'
           go_simp
           with_reducible rfl
          rotate_left
          ·
           simp only [Act.put, sa_, s0_, s1_, i64_w, i32_w]
           rfl
          refine done_ (done_of HT_.out (by kernel_rfl)) ?_
          try go_wp2
          go_roundg k1
          case measure => have := HK1.out; omega
          case rel => exact ⟨(wrap64 (x3_1 + 1)), (by first | rfl | (simp; done) | (simp [*]; done)), H', ⟨by have := HK1.out; omega⟩, ⟨by repeat (first | (with_reducible first | exact HB.out | apply below_alloc | apply pw_below_drewN | apply below_drew1) | exact HB.out)⟩⟩
         ·
          replace c11 := Bool.eq_false_iff.mpr c11
          subst c11
          have H1 : (some false) = some r := by rw [if_neg (show ¬ (false = true) by decide)] at H; exact H
          clear H
          have H := H1
          clear H1
          obtain rfl := Option.some.inj H
          try go_wp2
          have n0_ := Aside0.mk (below_drew1 HB.out)
          clear HB
          have HB := n0_
          clear n0_
          have p163 : 0 ≤ (x3_1 : Int) := of_decide_eq_true (by first | (with_reducible assumption) | assumption)
          have q163 : x3_1 < (l0.length : Int) := of_decide_eq_true (by first | (with_reducible assumption) | assumption)
          obtain ⟨ad163, e163, hx163_0, hx163_1, hx163_2, hx163_3⟩ := at_T39 HR0.out x3_1 p163 q163
          have hw163_3 := hx163_3
          have hw163_2 := hx163_2
          have hw163_1 := hx163_1
          have hw163_0 := hx163_0
          cases e163
          replace hx163_0 := cl_ HB.out hx163_0
          replace hx163_1 := cl_ HB.out hx163_1
          replace hx163_2 := cl_ HB.out hx163_2
          replace hx163_3 := cl_ HB.out hx163_3
          replace p163 := eq_true p163
          replace q163 := eq_true q163
          have p165 : 0 ≤ ((ji7) : Int) := of_decide_eq_true (by first | (with_reducible assumption) | assumption)
          have q165 : (ji7) < (l0.length : Int) := of_decide_eq_true (by first | (with_reducible assumption) | assumption)
          obtain ⟨ad165, e165, hx165_0, hx165_1, hx165_2, hx165_3⟩ := at_T39 HR0.out (ji7) p165 q165
          have hw165_3 := hx165_3
          have hw165_2 := hx165_2
          have hw165_1 := hx165_1
          have hw165_0 := hx165_0
          obtain rfl : ad163 = ad165 := (by injection e165)
          replace hx165_0 := cl_ HB.out hx165_0
          replace hx165_1 := cl_ HB.out hx165_1
          replace hx165_2 := cl_ HB.out hx165_2
          replace hx165_3 := cl_ HB.out hx165_3
          replace p165 := eq_true p165
          replace q165 := eq_true q165
          have p166 : 0 ≤ (x3_1 : Int) := of_decide_eq_true (by first | (with_reducible assumption) | assumption)
          have q166 : x3_1 < (l0.length : Int) := of_decide_eq_true (by first | (with_reducible assumption) | assumption)
          obtain ⟨ad166, e166, hx166_0, hx166_1, hx166_2, hx166_3⟩ := at_T39 HR0.out x3_1 p166 q166
          have hw166_3 := hx166_3
          have hw166_2 := hx166_2
          have hw166_1 := hx166_1
          have hw166_0 := hx166_0
          obtain rfl : ad163 = ad166 := (by injection e166)
          replace hx166_0 := cl_ HB.out hx166_0
          replace hx166_1 := cl_ HB.out hx166_1
          replace hx166_2 := cl_ HB.out hx166_2
          replace hx166_3 := cl_ HB.out hx166_3
          replace p166 := eq_true p166
          replace q166 := eq_true q166
          refine start_ (n := 23) (S := fun w' => w'.cell? (ad163.add ((x3_1).toNat * 4)) = some (.string ((rd_T39 l0 x3_1).f0)) ∧ w'.cell? ⟨(ad163.add ((x3_1).toNat * 4)).block, (ad163.add ((x3_1).toNat * 4)).off + 1, none⟩ = some (.int .i64 ((rd_T39 l0 x3_1).f1)) ∧ w'.cell? ⟨(ad163.add ((x3_1).toNat * 4)).block, (ad163.add ((x3_1).toNat * 4)).off + 2, none⟩ = some (.bool ((rd_T39 l0 x3_1).f2)) ∧ w'.cell? ⟨(ad163.add ((x3_1).toNat * 4)).block, (ad163.add ((x3_1).toNat * 4)).off + 3, none⟩ = some (.string ((rd_T39 l0 x3_1).f3)) ∧ w'.cell? (ad163.add (((ji7)).toNat * 4)) = some (.string ((rd_T39 l0 (ji7)).f0)) ∧ w'.cell? ⟨(ad163.add (((ji7)).toNat * 4)).block, (ad163.add (((ji7)).toNat * 4)).off + 1, none⟩ = some (.int .i64 ((rd_T39 l0 (ji7)).f1)) ∧ w'.cell? ⟨(ad163.add (((ji7)).toNat * 4)).block, (ad163.add (((ji7)).toNat * 4)).off + 2, none⟩ = some (.bool ((rd_T39 l0 (ji7)).f2)) ∧ w'.cell? ⟨(ad163.add (((ji7)).toNat * 4)).block, (ad163.add (((ji7)).toNat * 4)).off + 3, none⟩ = some (.string ((rd_T39 l0 (ji7)).f3)) ∧ w'.cell? (ad163.add ((x3_1).toNat * 4)) = some (.string ((rd_T39 l0 x3_1).f0)) ∧ w'.cell? ⟨(ad163.add ((x3_1).toNat * 4)).block, (ad163.add ((x3_1).toNat * 4)).off + 1, none⟩ = some (.int .i64 ((rd_T39 l0 x3_1).f1)) ∧ w'.cell? ⟨(ad163.add ((x3_1).toNat * 4)).block, (ad163.add ((x3_1).toNat * 4)).off + 2, none⟩ = some (.bool ((rd_T39 l0 x3_1).f2)) ∧ w'.cell? ⟨(ad163.add ((x3_1).toNat * 4)).block, (ad163.add ((x3_1).toNat * 4)).off + 3, none⟩ = some (.string ((rd_T39 l0 x3_1).f3))) (ds := []) (b_ 23 0) (by kernel_rfl) rfl rfl ⟨(cl_ HB.out hw163_0), (cl_ HB.out hw163_1), (cl_ HB.out hw163_2), (cl_ HB.out hw163_3), (cl_ HB.out hw165_0), (cl_ HB.out hw165_1), (cl_ HB.out hw165_2), (cl_ HB.out hw165_3), (cl_ HB.out hw166_0), (cl_ HB.out hw166_1), (cl_ HB.out hw166_2), (cl_ HB.out hw166_3)⟩ (fun hHeld => ?_); refine with_tabW millhandref12_Ordered.tab4 millhandref12_Ordered.bits4 (fun HT_ HW_ => ?_)
          generalize wr.drew = w15 at HB hx163_0 hx163_1 hx163_2 hx163_3 hx165_0 hx165_1 hx165_2 hx165_3 hx166_0 hx166_1 hx166_2 hx166_3 hHeld ⊢
          refine pA_ 0 10 ?_ (b_ 23 1) (any_of HT_.out (by kernel_rfl)) rfl rfl (fun _ _ _ h => h) (by rfl) ?_ ?_ ?_ ?_
          rotate_left
          ·
           intro w'
           go_simp
           with_reducible rfl
          rotate_left
          ·
           simp only [Act.put, sa_, s0_, s1_, i64_w, i32_w]
           rfl
          refine pA_ 1 11 ?_ (b_ 23 3) (any_of HT_.out (by kernel_rfl)) rfl rfl (fun _ _ _ h => h) (by rfl) ?_ ?_ ?_ ?_
          rotate_left
          ·
           intro w'
           go_simp
           with_reducible rfl
          rotate_left
          ·
           simp only [Act.put, sa_, s0_, s1_, i64_w, i32_w]
           rfl
          refine pA_ 2 12 ?_ (b_ 23 7) (any_of HT_.out (by kernel_rfl)) rfl rfl (fun _ _ _ h => h) (by rfl) ?_ ?_ ?_ ?_
          rotate_left
          ·
           intro w'
           go_simp
           with_reducible rfl
          rotate_left
          ·
           simp only [Act.put, sa_, s0_, s1_, i64_w, i32_w]
           rfl
          refine tA_ 3 13 ?_ (b_ 23 15) (take_ofW HT_.out HW_.out (by kernel_rfl)) rfl rfl (fun _ _ _ h => h) (by rfl) ?_ hHeld ?_ ?_ ?_
          rotate_left
          ·
           rintro w' ⟨s0, s1, s2, s3, s4, s5, s6, s7, s8, s9, s10, s11⟩
           go_simp
           with_reducible rfl
          rotate_left
          ·
           simp only [Act.put, sa_, s0_, s1_, i64_w, i32_w]
           rfl
          refine one_ (i := 4) (N := some 14) (b_ 23 31) rfl rfl (one_of HT_.out (by kernel_rfl)) (by decide) (fun K hK => ?_)
          refine goes_ Try.func35 (by kernel_rfl) rfl #[.agg #[.string ((rd_T39 l0 x3_1).f0), .int .i64 ((rd_T39 l0 x3_1).f1), .bool ((rd_T39 l0 x3_1).f2), .string ((rd_T39 l0 x3_1).f3)]] (by rfl) rfl rfl (by (try simp only [List.map_toArray, List.map_cons, List.map_nil]); first | done | rfl | (simp only [List.length_drop, List.length_take]; rfl)) ?_
          with_reducible refine (millhandref12_May.calls ((rd_T39 l0 x3_1).f0) ((rd_T39 l0 x3_1).f1) ((rd_T39 l0 x3_1).f2) ((rd_T39 l0 x3_1).f3) true _ A4.out).mono ?_
          rintro e w16 ⟨rfl, hb⟩
          refine ⟨_, rfl, ?_⟩
          have n0_ := Aside0.mk (below_step (by repeat (first | (with_reducible first | exact HB.out | apply below_alloc | apply pw_below_drewN | apply below_drew1) | exact HB.out)) hb)
          clear HB
          have HB := n0_
          clear n0_
          (try clear hb)
          (try clear hb2)
          (try clear hk)
          (try clear hi)
          refine hK.out _ _ ⟨(cl_ HB.out hw163_0), (cl_ HB.out hw163_1), (cl_ HB.out hw163_2), (cl_ HB.out hw163_3), (cl_ HB.out hw165_0), (cl_ HB.out hw165_1), (cl_ HB.out hw165_2), (cl_ HB.out hw165_3), (cl_ HB.out hw166_0), (cl_ HB.out hw166_1), (cl_ HB.out hw166_2), (cl_ HB.out hw166_3)⟩ (fun hHeld => ?_)
          clear hK K
          refine norm_ (a' := ?_) ?_ ?_
          rotate_left
          ·
           show Act.put _ (some 14) _ = _
           simp only [Act.put, sa_, s0_, s1_, i64_w, i32_w]
           rfl
          refine pA_ 5 15 ?_ (b_ 23 63) (any_of HT_.out (by kernel_rfl)) rfl rfl (fun _ _ _ h => h) (by rfl) ?_ ?_ ?_ ?_
          rotate_left
          ·
           intro w'
           go_simp
           with_reducible rfl
          rotate_left
          ·
           simp only [Act.put, sa_, s0_, s1_, i64_w, i32_w]
           rfl
          refine pA_ 6 16 ?_ (b_ 23 127) (any_of HT_.out (by kernel_rfl)) rfl rfl (fun _ _ _ h => h) (by rfl) ?_ ?_ ?_ ?_
          rotate_left
          ·
           intro w'
           go_simp
           with_reducible rfl
          rotate_left
          ·
           simp only [Act.put, sa_, s0_, s1_, i64_w, i32_w]
           rfl
          refine pA_ 7 17 ?_ (b_ 23 255) (any_of HT_.out (by kernel_rfl)) rfl rfl (fun _ _ _ h => h) (by rfl) ?_ ?_ ?_ ?_
          rotate_left
          ·
           intro w'
           go_simp
           with_reducible rfl
          rotate_left
          ·
           simp only [Act.put, sa_, s0_, s1_, i64_w, i32_w]
           rfl
          refine pA_ 8 18 ?_ (b_ 23 511) (any_of HT_.out (by kernel_rfl)) rfl rfl (fun _ _ _ h => h) (by rfl) ?_ ?_ ?_ ?_
          rotate_left
          ·
           intro w'
           go_simp
           with_reducible rfl
          rotate_left
          ·
           simp only [Act.put, sa_, s0_, s1_, i64_w, i32_w]
           rfl
          refine pA_ 9 19 ?_ (b_ 23 1023) (any_of HT_.out (by kernel_rfl)) rfl rfl (fun _ _ _ h => h) (by rfl) ?_ ?_ ?_ ?_
          rotate_left
          ·
           intro w'
           go_simp
           with_reducible rfl
          rotate_left
          ·
           simp only [Act.put, sa_, s0_, s1_, i64_w, i32_w]
           rfl
          refine pA_ 10 20 ?_ (b_ 23 2047) (any_of HT_.out (by kernel_rfl)) rfl rfl (fun _ _ _ h => h) (by rfl) ?_ ?_ ?_ ?_
          rotate_left
          ·
           intro w'
           go_simp
           with_reducible rfl
          rotate_left
          ·
           simp only [Act.put, sa_, s0_, s1_, i64_w, i32_w]
           rfl
          refine pA_ 11 21 ?_ (b_ 23 4095) (any_of HT_.out (by kernel_rfl)) rfl rfl (fun _ _ _ h => h) (by rfl) ?_ ?_ ?_ ?_
          rotate_left
          ·
           intro w'
           go_simp
           with_reducible rfl
          rotate_left
          ·
           simp only [Act.put, sa_, s0_, s1_, i64_w, i32_w]
           rfl
          refine pA_ 12 22 ?_ (b_ 23 8191) (any_of HT_.out (by kernel_rfl)) rfl rfl (fun _ _ _ h => h) (by rfl) ?_ ?_ ?_ ?_
          rotate_left
          ·
           intro w'
           go_simp
           with_reducible rfl
          rotate_left
          ·
           simp only [Act.put, sa_, s0_, s1_, i64_w, i32_w]
           rfl
          refine pA_ 13 23 ?_ (b_ 23 16383) (any_of HT_.out (by kernel_rfl)) rfl rfl (fun _ _ _ h => h) (by rfl) ?_ ?_ ?_ ?_
          rotate_left
          ·
           intro w'
           go_simp
           with_reducible rfl
          rotate_left
          ·
           simp only [Act.put, sa_, s0_, s1_, i64_w, i32_w]
           rfl
          refine pA_ 15 25 ?_ (b_ 23 49151) (any_of HT_.out (by kernel_rfl)) rfl rfl (fun _ _ _ h => h) (by rfl) ?_ ?_ ?_ ?_
          rotate_left
          ·
           intro w'
           go_simp
           with_reducible rfl
          rotate_left
          ·
           simp only [Act.put, sa_, s0_, s1_, i64_w, i32_w]
           rfl
          refine pA_ 16 26 ?_ (b_ 23 114687) (any_of HT_.out (by kernel_rfl)) rfl rfl (fun _ _ _ h => h) (by rfl) ?_ ?_ ?_ ?_
          rotate_left
          ·
           intro w'
           go_simp
           with_reducible rfl
          rotate_left
          ·
           simp only [Act.put, sa_, s0_, s1_, i64_w, i32_w]
           rfl
          refine pA_ 17 27 ?_ (b_ 23 245759) (any_of HT_.out (by kernel_rfl)) rfl rfl (fun _ _ _ h => h) (by rfl) ?_ ?_ ?_ ?_
          rotate_left
          ·
           intro w'
           go_simp
           with_reducible rfl
          rotate_left
          ·
           simp only [Act.put, sa_, s0_, s1_, i64_w, i32_w]
           rfl
          refine tA_ 14 24 ?_ (b_ 23 262143) (take_ofW HT_.out HW_.out (by kernel_rfl)) rfl rfl (fun _ _ _ h => h) (by rfl) ?_ hHeld ?_ ?_ ?_
          rotate_left
          ·
           rintro w' ⟨s0, s1, s2, s3, s4, s5, s6, s7, s8, s9, s10, s11⟩
           go_simp
           with_reducible rfl
          rotate_left
          ·
           simp only [Act.put, sa_, s0_, s1_, i64_w, i32_w]
           rfl
          refine tA_ 18 28 ?_ (b_ 23 524287) (take_ofW HT_.out HW_.out (by kernel_rfl)) rfl rfl (fun _ _ _ h => h) (by rfl) ?_ hHeld ?_ ?_ ?_
          rotate_left
          ·
           rintro w' ⟨s0, s1, s2, s3, s4, s5, s6, s7, s8, s9, s10, s11⟩
           go_simp
           with_reducible rfl
          rotate_left
          ·
           simp only [Act.put, sa_, s0_, s1_, i64_w, i32_w]
           rfl
          refine one_ (i := 19) (N := some 29) (b_ 23 1048575) rfl rfl (one_of HT_.out (by kernel_rfl)) (by decide) (fun K hK => ?_)
          refine goes_ Try.func36 (by kernel_rfl) rfl #[.agg #[.string ((rd_T39 l0 (ji7)).f0), .int .i64 ((rd_T39 l0 (ji7)).f1), .bool ((rd_T39 l0 (ji7)).f2), .string ((rd_T39 l0 (ji7)).f3)], .agg #[.string ((rd_T39 l0 x3_1).f0), .int .i64 ((rd_T39 l0 x3_1).f1), .bool ((rd_T39 l0 x3_1).f2), .string ((rd_T39 l0 x3_1).f3)]] (by rfl) rfl rfl (by (try simp only [List.map_toArray, List.map_cons, List.map_nil]); first | done | (simp only [hji7]; rfl) | rfl | (simp only [List.length_drop, List.length_take]; rfl)) ?_
          with_reducible refine (millhandref12_Ahead.calls ((rd_T39 l0 (ji7)).f0) ((rd_T39 l0 (ji7)).f1) ((rd_T39 l0 (ji7)).f2) ((rd_T39 l0 (ji7)).f3) ((rd_T39 l0 x3_1).f0) ((rd_T39 l0 x3_1).f1) ((rd_T39 l0 x3_1).f2) ((rd_T39 l0 x3_1).f3) false _ A10.out).mono ?_
          rintro e w17 ⟨rfl, hb⟩
          refine ⟨_, rfl, ?_⟩
          have n0_ := Aside0.mk (below_step (by repeat (first | (with_reducible first | exact HB.out | apply below_alloc | apply pw_below_drewN | apply below_drew1) | exact HB.out)) hb)
          clear HB
          have HB := n0_
          clear n0_
          (try clear hb)
          (try clear hb2)
          (try clear hk)
          (try clear hi)
          refine hK.out _ _ ⟨(cl_ HB.out hw163_0), (cl_ HB.out hw163_1), (cl_ HB.out hw163_2), (cl_ HB.out hw163_3), (cl_ HB.out hw165_0), (cl_ HB.out hw165_1), (cl_ HB.out hw165_2), (cl_ HB.out hw165_3), (cl_ HB.out hw166_0), (cl_ HB.out hw166_1), (cl_ HB.out hw166_2), (cl_ HB.out hw166_3)⟩ (fun hHeld => ?_)
          clear hK K
          refine norm_ (a' := ?_) ?_ ?_
          rotate_left
          ·
           show Act.put _ (some 29) _ = _
           simp only [Act.put, sa_, s0_, s1_, i64_w, i32_w]
           rfl
          refine pA_ 20 30 ?_ (b_ 23 2097151) (any_of HT_.out (by kernel_rfl)) rfl rfl (fun _ _ _ h => h) (by rfl) ?_ ?_ ?_ ?_
          rotate_left
          ·
           intro w'
           go_simp
           with_reducible rfl
          rotate_left
          ·
           simp only [Act.put, sa_, s0_, s1_, i64_w, i32_w]
           rfl
          refine pA_ 21 31 ?_ (b_ 23 4194303) (any_of HT_.out (by kernel_rfl)) rfl rfl (fun _ _ _ h => h) (by rfl) ?_ ?_ ?_ ?_
          rotate_left
          ·
           intro w'
           go_simp
           with_reducible rfl
          rotate_left
          ·
           simp only [Act.put, sa_, s0_, s1_, i64_w, i32_w]
           rfl
          refine pA_ 22 32 ?_ (b_ 23 8388607) (any_of HT_.out (by kernel_rfl)) rfl rfl (fun _ _ _ h => h) (by rfl) ?_ ?_ ?_ ?_
          rotate_left
          ·
           intro w'
           go_simp
           with_reducible rfl
          rotate_left
          ·
           simp only [Act.put, sa_, s0_, s1_, i64_w, i32_w]
           rfl
          refine done_ (done_of HT_.out (by kernel_rfl)) ?_
          try go_wp2
          go_ret
          exact ⟨by first | rfl | (simp [errW_none, errW_some] <;> rfl) | (simp only [← hji7]; first | rfl | (simp [errW_none, errW_some] <;> rfl)) | (simp [*, errW_none, errW_some] <;> rfl) | exact ret_ie _ | (simp [*, errW_none, errW_some, bne]; done), by repeat (first | (with_reducible first | exact HB.out | apply below_alloc | apply pw_below_drewN | apply below_drew1) | exact HB.out)⟩
        ·
         rw [if_neg c9] at H
         exact absurd H (by simp)
       ·
        rw [if_neg c8] at H
        exact absurd H (by simp)
      ·
       rw [if_neg c6] at H
       have c6b0 : decide (0 < x3_1) = false := decide_eq_false c6
       clear c6
       have H' := Aside0.mk H
       clear H
       try go_wp2
       have n0_ := Aside0.mk (below_drew1 HB.out)
       clear HB
       have HB := n0_
       clear n0_
       have p163 : 0 ≤ (x3_1 : Int) := of_decide_eq_true (by first | (with_reducible assumption) | assumption)
       have q163 : x3_1 < (l0.length : Int) := of_decide_eq_true (by first | (with_reducible assumption) | assumption)
       obtain ⟨ad163, e163, hx163_0, hx163_1, hx163_2, hx163_3⟩ := at_T39 HR0.out x3_1 p163 q163
       have hw163_3 := hx163_3
       have hw163_2 := hx163_2
       have hw163_1 := hx163_1
       have hw163_0 := hx163_0
       cases e163
       replace hx163_0 := cl_ HB.out hx163_0
       replace hx163_1 := cl_ HB.out hx163_1
       replace hx163_2 := cl_ HB.out hx163_2
       replace hx163_3 := cl_ HB.out hx163_3
       replace p163 := eq_true p163
       replace q163 := eq_true q163
       refine start_ (n := 23) (S := fun w' => w'.cell? (ad163.add ((x3_1).toNat * 4)) = some (.string ((rd_T39 l0 x3_1).f0)) ∧ w'.cell? ⟨(ad163.add ((x3_1).toNat * 4)).block, (ad163.add ((x3_1).toNat * 4)).off + 1, none⟩ = some (.int .i64 ((rd_T39 l0 x3_1).f1)) ∧ w'.cell? ⟨(ad163.add ((x3_1).toNat * 4)).block, (ad163.add ((x3_1).toNat * 4)).off + 2, none⟩ = some (.bool ((rd_T39 l0 x3_1).f2)) ∧ w'.cell? ⟨(ad163.add ((x3_1).toNat * 4)).block, (ad163.add ((x3_1).toNat * 4)).off + 3, none⟩ = some (.string ((rd_T39 l0 x3_1).f3))) (ds := []) (b_ 23 0) (by kernel_rfl) rfl rfl ⟨(cl_ HB.out hw163_0), (cl_ HB.out hw163_1), (cl_ HB.out hw163_2), (cl_ HB.out hw163_3)⟩ (fun hHeld => ?_); refine with_tabW millhandref12_Ordered.tab4 millhandref12_Ordered.bits4 (fun HT_ HW_ => ?_)
       generalize wr.drew = w18 at HB hx163_0 hx163_1 hx163_2 hx163_3 hHeld ⊢
       refine pA_ 0 10 ?_ (b_ 23 1) (any_of HT_.out (by kernel_rfl)) rfl rfl (fun _ _ _ h => h) (by rfl) ?_ ?_ ?_ ?_
       rotate_left
       ·
        intro w'
        go_simp
        with_reducible rfl
       rotate_left
       ·
        simp only [Act.put, sa_, s0_, s1_, i64_w, i32_w]
        rfl
       refine pA_ 1 11 ?_ (b_ 23 3) (any_of HT_.out (by kernel_rfl)) rfl rfl (fun _ _ _ h => h) (by rfl) ?_ ?_ ?_ ?_
       rotate_left
       ·
        intro w'
        go_simp
        with_reducible rfl
       rotate_left
       ·
        simp only [Act.put, sa_, s0_, s1_, i64_w, i32_w]
        rfl
       refine pA_ 2 12 ?_ (b_ 23 7) (any_of HT_.out (by kernel_rfl)) rfl rfl (fun _ _ _ h => h) (by rfl) ?_ ?_ ?_ ?_
       rotate_left
       ·
        intro w'
        go_simp
        with_reducible rfl
       rotate_left
       ·
        simp only [Act.put, sa_, s0_, s1_, i64_w, i32_w]
        rfl
       refine tA_ 3 13 ?_ (b_ 23 15) (take_ofW HT_.out HW_.out (by kernel_rfl)) rfl rfl (fun _ _ _ h => h) (by rfl) ?_ hHeld ?_ ?_ ?_
       rotate_left
       ·
        rintro w' ⟨s0, s1, s2, s3⟩
        go_simp
        with_reducible rfl
       rotate_left
       ·
        simp only [Act.put, sa_, s0_, s1_, i64_w, i32_w]
        rfl
       refine one_ (i := 4) (N := some 14) (b_ 23 31) rfl rfl (one_of HT_.out (by kernel_rfl)) (by decide) (fun K hK => ?_)
       refine goes_ Try.func35 (by kernel_rfl) rfl #[.agg #[.string ((rd_T39 l0 x3_1).f0), .int .i64 ((rd_T39 l0 x3_1).f1), .bool ((rd_T39 l0 x3_1).f2), .string ((rd_T39 l0 x3_1).f3)]] (by rfl) rfl rfl (by (try simp only [List.map_toArray, List.map_cons, List.map_nil]); first | done | rfl | (simp only [List.length_drop, List.length_take]; rfl)) ?_
       with_reducible refine (millhandref12_May.calls ((rd_T39 l0 x3_1).f0) ((rd_T39 l0 x3_1).f1) ((rd_T39 l0 x3_1).f2) ((rd_T39 l0 x3_1).f3) true _ A4.out).mono ?_
       rintro e w19 ⟨rfl, hb⟩
       refine ⟨_, rfl, ?_⟩
       have n0_ := Aside0.mk (below_step (by repeat (first | (with_reducible first | exact HB.out | apply below_alloc | apply pw_below_drewN | apply below_drew1) | exact HB.out)) hb)
       clear HB
       have HB := n0_
       clear n0_
       (try clear hb)
       (try clear hb2)
       (try clear hk)
       (try clear hi)
       refine hK.out _ _ ⟨(cl_ HB.out hw163_0), (cl_ HB.out hw163_1), (cl_ HB.out hw163_2), (cl_ HB.out hw163_3)⟩ (fun hHeld => ?_)
       clear hK K
       refine norm_ (a' := ?_) ?_ ?_
       rotate_left
       ·
        show Act.put _ (some 14) _ = _
        simp only [Act.put, sa_, s0_, s1_, i64_w, i32_w]
        rfl
       refine pA_ 5 15 ?_ (b_ 23 63) (any_of HT_.out (by kernel_rfl)) rfl rfl (fun _ _ _ h => h) (by rfl) ?_ ?_ ?_ ?_
       rotate_left
       ·
        intro w'
        go_simp
        with_reducible rfl
       rotate_left
       ·
        simp only [Act.put, sa_, s0_, s1_, i64_w, i32_w]
        rfl
       refine pA_ 6 16 ?_ (b_ 23 127) (any_of HT_.out (by kernel_rfl)) rfl rfl (fun _ _ _ h => h) (by rfl) ?_ ?_ ?_ ?_
       rotate_left
       ·
        intro w'
        go_simp
        with_reducible rfl
       rotate_left
       ·
        simp only [Act.put, sa_, s0_, s1_, i64_w, i32_w]
        rfl
       refine pA_ 7 17 ?_ (b_ 23 255) (any_of HT_.out (by kernel_rfl)) rfl rfl (fun _ _ _ h => h) (by rfl) ?_ ?_ ?_ ?_
       rotate_left
       ·
        intro w'
        go_simp
        with_reducible rfl
       rotate_left
       ·
        simp only [Act.put, sa_, s0_, s1_, i64_w, i32_w]
        rfl
       refine pA_ 8 18 ?_ (b_ 23 511) (any_of HT_.out (by kernel_rfl)) rfl rfl (fun _ _ _ h => h) (by rfl) ?_ ?_ ?_ ?_
       rotate_left
       ·
        intro w'
        go_simp
        with_reducible rfl
       rotate_left
       ·
        simp only [Act.put, sa_, s0_, s1_, i64_w, i32_w]
        rfl
       refine pA_ 9 19 ?_ (b_ 23 1023) (any_of HT_.out (by kernel_rfl)) rfl rfl (fun _ _ _ h => h) (by rfl) ?_ ?_ ?_ ?_
       rotate_left
       ·
        intro w'
        go_simp
        with_reducible rfl
       rotate_left
       ·
        simp only [Act.put, sa_, s0_, s1_, i64_w, i32_w]
        rfl
       refine pB_ 10 20 ?_ (b_ 23 2047) (any_of HT_.out (by kernel_rfl)) rfl rfl (fun _ _ _ h => h) (by rfl) ?_ ?_
       rotate_left
       ·
        simp only [Act.put, sa_, s0_, s1_, i64_w, i32_w]
        rfl
       refine pB_ 11 21 ?_ (b_ 23 4095) (any_of HT_.out (by kernel_rfl)) rfl rfl (fun _ _ _ h => h) (by rfl) ?_ ?_
       rotate_left
       ·
        simp only [Act.put, sa_, s0_, s1_, i64_w, i32_w]
        rfl
       refine pB_ 12 22 ?_ (b_ 23 8191) (any_of HT_.out (by kernel_rfl)) rfl rfl (fun _ _ _ h => h) (by rfl) ?_ ?_
       rotate_left
       ·
        simp only [Act.put, sa_, s0_, s1_, i64_w, i32_w]
        rfl
       refine pB_ 13 23 ?_ (b_ 23 16383) (any_of HT_.out (by kernel_rfl)) rfl rfl (fun _ _ _ h => h) (by rfl) ?_ ?_
       rotate_left
       ·
        simp only [Act.put, sa_, s0_, s1_, i64_w, i32_w]
        rfl
       refine pB_ 14 24 ?_ (b_ 23 32767) (any_of HT_.out (by kernel_rfl)) rfl rfl (fun _ _ _ h => h) (by rfl) ?_ ?_
       rotate_left
       ·
        simp only [Act.put, sa_, s0_, s1_, i64_w, i32_w]
        rfl
       refine pB_ 15 25 ?_ (b_ 23 65535) (any_of HT_.out (by kernel_rfl)) rfl rfl (fun _ _ _ h => h) (by rfl) ?_ ?_
       rotate_left
       ·
        simp only [Act.put, sa_, s0_, s1_, i64_w, i32_w]
        rfl
       refine pB_ 16 26 ?_ (b_ 23 131071) (any_of HT_.out (by kernel_rfl)) rfl rfl (fun _ _ _ h => h) (by rfl) ?_ ?_
       rotate_left
       ·
        simp only [Act.put, sa_, s0_, s1_, i64_w, i32_w]
        rfl
       refine pB_ 17 27 ?_ (b_ 23 262143) (any_of HT_.out (by kernel_rfl)) rfl rfl (fun _ _ _ h => h) (by rfl) ?_ ?_
       rotate_left
       ·
        simp only [Act.put, sa_, s0_, s1_, i64_w, i32_w]
        rfl
       refine pB_ 18 28 ?_ (b_ 23 524287) (any_of HT_.out (by kernel_rfl)) rfl rfl (fun _ _ _ h => h) (by rfl) ?_ ?_
       rotate_left
       ·
        simp only [Act.put, sa_, s0_, s1_, i64_w, i32_w]
        rfl
       refine pB_ 19 29 ?_ (b_ 23 1048575) (any_of HT_.out (by kernel_rfl)) rfl rfl (fun _ _ _ h => h) (by rfl) ?_ ?_
       rotate_left
       ·
        simp only [Act.put, sa_, s0_, s1_, i64_w, i32_w]
        rfl
       refine pB_ 20 30 ?_ (b_ 23 2097151) (any_of HT_.out (by kernel_rfl)) rfl rfl (fun _ _ _ h => h) (by rfl) ?_ ?_
       rotate_left
       ·
        simp only [Act.put, sa_, s0_, s1_, i64_w, i32_w]
        rfl
       refine pA_ 21 31 ?_ (b_ 23 4194303) (any_of HT_.out (by kernel_rfl)) rfl rfl (fun _ _ _ h => h) (by rfl) ?_ ?_ ?_ ?_
       rotate_left
       ·
        intro w'
        go_simp
        with_reducible rfl
       rotate_left
       ·
        simp only [Act.put, sa_, s0_, s1_, i64_w, i32_w]
        rfl
       refine pA_ 22 32 ?_ (b_ 23 8388607) (any_of HT_.out (by kernel_rfl)) rfl rfl (fun _ _ _ h => h) (by rfl) ?_ ?_ ?_ ?_
       rotate_left
       ·
        intro w'
        go_simp
        with_reducible rfl
       rotate_left
       ·
        simp only [Act.put, sa_, s0_, s1_, i64_w, i32_w]
        rfl
       refine done_ (done_of HT_.out (by kernel_rfl)) ?_
       try go_wp2
       go_roundg k1
       case measure => have := HK1.out; omega
       case rel => exact ⟨(wrap64 (x3_1 + 1)), (by first | rfl | (simp; done) | (simp [*]; done)), H', ⟨by have := HK1.out; omega⟩, ⟨by repeat (first | (with_reducible first | exact HB.out | apply below_alloc | apply pw_below_drewN | apply below_drew1) | exact HB.out)⟩⟩
     ·
      replace c5 := Bool.eq_false_iff.mpr c5
      subst c5
      have H1 : (some false) = some r := by rw [if_neg (show ¬ (false = true) by decide)] at H; exact H
      clear H
      have H := H1
      clear H1
      obtain rfl := Option.some.inj H
      try go_wp2
      have n0_ := Aside0.mk (below_drew1 HB.out)
      clear HB
      have HB := n0_
      clear n0_
      have p163 : 0 ≤ (x3_1 : Int) := of_decide_eq_true (by first | (with_reducible assumption) | assumption)
      have q163 : x3_1 < (l0.length : Int) := of_decide_eq_true (by first | (with_reducible assumption) | assumption)
      obtain ⟨ad163, e163, hx163_0, hx163_1, hx163_2, hx163_3⟩ := at_T39 HR0.out x3_1 p163 q163
      have hw163_3 := hx163_3
      have hw163_2 := hx163_2
      have hw163_1 := hx163_1
      have hw163_0 := hx163_0
      cases e163
      replace hx163_0 := cl_ HB.out hx163_0
      replace hx163_1 := cl_ HB.out hx163_1
      replace hx163_2 := cl_ HB.out hx163_2
      replace hx163_3 := cl_ HB.out hx163_3
      replace p163 := eq_true p163
      replace q163 := eq_true q163
      refine start_ (n := 23) (S := fun w' => w'.cell? (ad163.add ((x3_1).toNat * 4)) = some (.string ((rd_T39 l0 x3_1).f0)) ∧ w'.cell? ⟨(ad163.add ((x3_1).toNat * 4)).block, (ad163.add ((x3_1).toNat * 4)).off + 1, none⟩ = some (.int .i64 ((rd_T39 l0 x3_1).f1)) ∧ w'.cell? ⟨(ad163.add ((x3_1).toNat * 4)).block, (ad163.add ((x3_1).toNat * 4)).off + 2, none⟩ = some (.bool ((rd_T39 l0 x3_1).f2)) ∧ w'.cell? ⟨(ad163.add ((x3_1).toNat * 4)).block, (ad163.add ((x3_1).toNat * 4)).off + 3, none⟩ = some (.string ((rd_T39 l0 x3_1).f3))) (ds := []) (b_ 23 0) (by kernel_rfl) rfl rfl ⟨(cl_ HB.out hw163_0), (cl_ HB.out hw163_1), (cl_ HB.out hw163_2), (cl_ HB.out hw163_3)⟩ (fun hHeld => ?_); refine with_tabW millhandref12_Ordered.tab4 millhandref12_Ordered.bits4 (fun HT_ HW_ => ?_)
      generalize wr.drew = w20 at HB hx163_0 hx163_1 hx163_2 hx163_3 hHeld ⊢
      refine pA_ 0 10 ?_ (b_ 23 1) (any_of HT_.out (by kernel_rfl)) rfl rfl (fun _ _ _ h => h) (by rfl) ?_ ?_ ?_ ?_
      rotate_left
      ·
       intro w'
       go_simp
       with_reducible rfl
      rotate_left
      ·
       simp only [Act.put, sa_, s0_, s1_, i64_w, i32_w]
       rfl
      refine pA_ 1 11 ?_ (b_ 23 3) (any_of HT_.out (by kernel_rfl)) rfl rfl (fun _ _ _ h => h) (by rfl) ?_ ?_ ?_ ?_
      rotate_left
      ·
       intro w'
       go_simp
       with_reducible rfl
      rotate_left
      ·
       simp only [Act.put, sa_, s0_, s1_, i64_w, i32_w]
       rfl
      refine pA_ 2 12 ?_ (b_ 23 7) (any_of HT_.out (by kernel_rfl)) rfl rfl (fun _ _ _ h => h) (by rfl) ?_ ?_ ?_ ?_
      rotate_left
      ·
       intro w'
       go_simp
       with_reducible rfl
      rotate_left
      ·
       simp only [Act.put, sa_, s0_, s1_, i64_w, i32_w]
       rfl
      refine tA_ 3 13 ?_ (b_ 23 15) (take_ofW HT_.out HW_.out (by kernel_rfl)) rfl rfl (fun _ _ _ h => h) (by rfl) ?_ hHeld ?_ ?_ ?_
      rotate_left
      ·
       rintro w' ⟨s0, s1, s2, s3⟩
       go_simp
       with_reducible rfl
      rotate_left
      ·
       simp only [Act.put, sa_, s0_, s1_, i64_w, i32_w]
       rfl
      refine one_ (i := 4) (N := some 14) (b_ 23 31) rfl rfl (one_of HT_.out (by kernel_rfl)) (by decide) (fun K hK => ?_)
      refine goes_ Try.func35 (by kernel_rfl) rfl #[.agg #[.string ((rd_T39 l0 x3_1).f0), .int .i64 ((rd_T39 l0 x3_1).f1), .bool ((rd_T39 l0 x3_1).f2), .string ((rd_T39 l0 x3_1).f3)]] (by rfl) rfl rfl (by (try simp only [List.map_toArray, List.map_cons, List.map_nil]); first | done | rfl | (simp only [List.length_drop, List.length_take]; rfl)) ?_
      with_reducible refine (millhandref12_May.calls ((rd_T39 l0 x3_1).f0) ((rd_T39 l0 x3_1).f1) ((rd_T39 l0 x3_1).f2) ((rd_T39 l0 x3_1).f3) false _ A4.out).mono ?_
      rintro e w21 ⟨rfl, hb⟩
      refine ⟨_, rfl, ?_⟩
      have n0_ := Aside0.mk (below_step (by repeat (first | (with_reducible first | exact HB.out | apply below_alloc | apply pw_below_drewN | apply below_drew1) | exact HB.out)) hb)
      clear HB
      have HB := n0_
      clear n0_
      (try clear hb)
      (try clear hb2)
      (try clear hk)
      (try clear hi)
      refine hK.out _ _ ⟨(cl_ HB.out hw163_0), (cl_ HB.out hw163_1), (cl_ HB.out hw163_2), (cl_ HB.out hw163_3)⟩ (fun hHeld => ?_)
      clear hK K
      refine norm_ (a' := ?_) ?_ ?_
      rotate_left
      ·
       show Act.put _ (some 14) _ = _
       simp only [Act.put, sa_, s0_, s1_, i64_w, i32_w]
       rfl
      refine pA_ 5 15 ?_ (b_ 23 63) (any_of HT_.out (by kernel_rfl)) rfl rfl (fun _ _ _ h => h) (by rfl) ?_ ?_ ?_ ?_
      rotate_left
      ·
       intro w'
       go_simp
       with_reducible rfl
      rotate_left
      ·
       simp only [Act.put, sa_, s0_, s1_, i64_w, i32_w]
       rfl
      refine pA_ 6 16 ?_ (b_ 23 127) (any_of HT_.out (by kernel_rfl)) rfl rfl (fun _ _ _ h => h) (by rfl) ?_ ?_ ?_ ?_
      rotate_left
      ·
       intro w'
       go_simp
       with_reducible rfl
      rotate_left
      ·
       simp only [Act.put, sa_, s0_, s1_, i64_w, i32_w]
       rfl
      refine pB_ 7 17 ?_ (b_ 23 255) (any_of HT_.out (by kernel_rfl)) rfl rfl (fun _ _ _ h => h) (by rfl) ?_ ?_
      rotate_left
      ·
       simp only [Act.put, sa_, s0_, s1_, i64_w, i32_w]
       rfl
      refine pB_ 8 18 ?_ (b_ 23 511) (any_of HT_.out (by kernel_rfl)) rfl rfl (fun _ _ _ h => h) (by rfl) ?_ ?_
      rotate_left
      ·
       simp only [Act.put, sa_, s0_, s1_, i64_w, i32_w]
       rfl
      refine pB_ 9 19 ?_ (b_ 23 1023) (any_of HT_.out (by kernel_rfl)) rfl rfl (fun _ _ _ h => h) (by rfl) ?_ ?_
      rotate_left
      ·
       simp only [Act.put, sa_, s0_, s1_, i64_w, i32_w]
       rfl
      refine pB_ 10 20 ?_ (b_ 23 2047) (any_of HT_.out (by kernel_rfl)) rfl rfl (fun _ _ _ h => h) (by rfl) ?_ ?_
      rotate_left
      ·
       simp only [Act.put, sa_, s0_, s1_, i64_w, i32_w]
       rfl
      refine pB_ 11 21 ?_ (b_ 23 4095) (any_of HT_.out (by kernel_rfl)) rfl rfl (fun _ _ _ h => h) (by rfl) ?_ ?_
      rotate_left
      ·
       simp only [Act.put, sa_, s0_, s1_, i64_w, i32_w]
       rfl
      refine pB_ 12 22 ?_ (b_ 23 8191) (any_of HT_.out (by kernel_rfl)) rfl rfl (fun _ _ _ h => h) (by rfl) ?_ ?_
      rotate_left
      ·
       simp only [Act.put, sa_, s0_, s1_, i64_w, i32_w]
       rfl
      refine pB_ 13 23 ?_ (b_ 23 16383) (any_of HT_.out (by kernel_rfl)) rfl rfl (fun _ _ _ h => h) (by rfl) ?_ ?_
      rotate_left
      ·
       simp only [Act.put, sa_, s0_, s1_, i64_w, i32_w]
       rfl
      refine pB_ 14 24 ?_ (b_ 23 32767) (any_of HT_.out (by kernel_rfl)) rfl rfl (fun _ _ _ h => h) (by rfl) ?_ ?_
      rotate_left
      ·
       simp only [Act.put, sa_, s0_, s1_, i64_w, i32_w]
       rfl
      refine pB_ 15 25 ?_ (b_ 23 65535) (any_of HT_.out (by kernel_rfl)) rfl rfl (fun _ _ _ h => h) (by rfl) ?_ ?_
      rotate_left
      ·
       simp only [Act.put, sa_, s0_, s1_, i64_w, i32_w]
       rfl
      refine pB_ 16 26 ?_ (b_ 23 131071) (any_of HT_.out (by kernel_rfl)) rfl rfl (fun _ _ _ h => h) (by rfl) ?_ ?_
      rotate_left
      ·
       simp only [Act.put, sa_, s0_, s1_, i64_w, i32_w]
       rfl
      refine pB_ 17 27 ?_ (b_ 23 262143) (any_of HT_.out (by kernel_rfl)) rfl rfl (fun _ _ _ h => h) (by rfl) ?_ ?_
      rotate_left
      ·
       simp only [Act.put, sa_, s0_, s1_, i64_w, i32_w]
       rfl
      refine pB_ 18 28 ?_ (b_ 23 524287) (any_of HT_.out (by kernel_rfl)) rfl rfl (fun _ _ _ h => h) (by rfl) ?_ ?_
      rotate_left
      ·
       simp only [Act.put, sa_, s0_, s1_, i64_w, i32_w]
       rfl
      refine pB_ 19 29 ?_ (b_ 23 1048575) (any_of HT_.out (by kernel_rfl)) rfl rfl (fun _ _ _ h => h) (by rfl) ?_ ?_
      rotate_left
      ·
       simp only [Act.put, sa_, s0_, s1_, i64_w, i32_w]
       rfl
      refine pB_ 20 30 ?_ (b_ 23 2097151) (any_of HT_.out (by kernel_rfl)) rfl rfl (fun _ _ _ h => h) (by rfl) ?_ ?_
      rotate_left
      ·
       simp only [Act.put, sa_, s0_, s1_, i64_w, i32_w]
       rfl
      refine pB_ 21 31 ?_ (b_ 23 4194303) (any_of HT_.out (by kernel_rfl)) rfl rfl (fun _ _ _ h => h) (by rfl) ?_ ?_
      rotate_left
      ·
       simp only [Act.put, sa_, s0_, s1_, i64_w, i32_w]
       rfl
      refine pA_ 22 32 ?_ (b_ 23 8388607) (any_of HT_.out (by kernel_rfl)) rfl rfl (fun _ _ _ h => h) (by rfl) ?_ ?_ ?_ ?_
      rotate_left
      ·
       intro w'
       go_simp
       with_reducible rfl
      rotate_left
      ·
       simp only [Act.put, sa_, s0_, s1_, i64_w, i32_w]
       rfl
      refine done_ (done_of HT_.out (by kernel_rfl)) ?_
      try go_wp2
      go_ret
      exact ⟨by first | rfl | (simp [errW_none, errW_some] <;> rfl) | (simp [*, errW_none, errW_some] <;> rfl) | exact ret_ie _ | (simp [*, errW_none, errW_some, bne]; done), by repeat (first | (with_reducible first | exact HB.out | apply below_alloc | apply pw_below_drewN | apply below_drew1) | exact HB.out)⟩
    ·
     rw [if_neg c3] at H
     exact absurd H (by simp)
   ·
    rw [if_neg c2] at H
    have c2b0 : decide (x3_1 < (l0.length : Int)) = false := decide_eq_false c2
    clear c2
    obtain rfl := Option.some.inj H
    go_wp2
    go_ret
    exact ⟨by first | rfl | (simp [errW_none, errW_some] <;> rfl) | (simp [*, errW_none, errW_some] <;> rfl) | exact ret_ie _ | (simp [*, errW_none, errW_some, bne]; done), by repeat (first | (with_reducible first | exact HB.out | apply below_alloc | apply pw_below_drewN | apply below_drew1) | exact HB.out)⟩

end Go.Proofs.Ytpalnbdcemmlnaa.R

/- Contracts of Go functions and what they come to, over the translation of this seat: made by a program of this session (print2.py). -/
import Derived.Test.YtagdmgjdhbmaiaaDoorOrd
import Derived.Test.YtagdmgjdhbmaiaaDoorRx0
import Derived.Test.YtagdmgjdhbmaiaaDoorRx1
namespace Go.Proofs.YtagdmgjdhbmaiaaDoor.R
open Go.RowKit Go.Proofs.YtagdmgjdhbmaiaaDoor.Co Go.Proofs.YtagdmgjdhbmaiaaDoor.Ret Go.Proofs.YtagdmgjdhbmaiaaDoor.Plain Go.Proofs.YtagdmgjdhbmaiaaDoor.Box Go.Proofs.YtagdmgjdhbmaiaaDoorW.PrintWords Go.Proofs.YtagdmgjdhbmaiaaDoorW.PrintLast Go.Proofs.YtagdmgjdhbmaiaaDoorW.PrintMore
attribute [local go_sem] max2_int min2_int max_two min_two max_three min_three max_four min_four   -- for this text's walks alone
set_option linter.unusedVariables false
set_option linter.unusedSimpArgs false

attribute [local go_sem high] eqA50
/-! ### millhandref01_Order: function 16 -/
mutual
def millhandref01_Order.l0 : Nat → List (S50) → List (S50) → Int → Option (Int)
 | 0, _, _, _ => none
 | k + 1, x0, x1, x5 => if x5 < (x0.length : Int) then (millhandref01_Order.j1 k x0 x1 x5 (decide (x5 < (x1.length : Int)))) else (millhandref01_Order.j1 k x0 x1 x5 false)
def millhandref01_Order.j1 : Nat → List (S50) → List (S50) → Int → Bool → Option (Int)
 | 0, _, _, _, _ => none
 | k + 1, x0, x1, x5, x17 => if x17 = true then (if 0 ≤ x5 then (if x5 < (x0.length : Int) then (if x5 < (x1.length : Int) then (if (((rd_T50 x0 x5).f0) == ((rd_T50 x1 x5).f0) && (((rd_T50 x0 x5).f1) == ((rd_T50 x1 x5).f1) && ((((rd_T50 x0 x5).f2).toList) == (((rd_T50 x1 x5).f2).toList)))) = true then (millhandref01_Order.l0 k x0 x1 (wrap64 (x5 + 1))) else (if (((rd_T50 x0 x5).f0) != ((rd_T50 x1 x5).f0)) = true then (if (rd_T50 x1 x5).f0 = true then (some (-1)) else (some 1)) else (if ((rd_T50 x0 x5).f1) < ((rd_T50 x1 x5).f1) then (some (-1)) else (if (Op.bytesLess (((rd_T50 x0 x5).f2).toList) (((rd_T50 x1 x5).f2).toList)) = true then (some (-1)) else (some 1))))) else (none)) else (none)) else (none)) else (if (x0.length : Int) < (x1.length : Int) then (some (-1)) else (if (x0.length : Int) > (x1.length : Int) then (some 1) else (some 0)))
end
def millhandref01_Order.f (k : Nat) (l0 : List (S50)) (l1 : List (S50)) : Option (Int) := millhandref01_Order.l0 k l0 l1 0
theorem millhandref01_Order.mono_l : ∀ k, (∀ y0 y1 y2, LeO (millhandref01_Order.l0 k y0 y1 y2) (millhandref01_Order.l0 (k + 1) y0 y1 y2)) ∧ (∀ y0 y1 y2 y3, LeO (millhandref01_Order.j1 k y0 y1 y2 y3) (millhandref01_Order.j1 (k + 1) y0 y1 y2 y3))
 | 0 => ⟨fun _ _ _ r h => by simp [millhandref01_Order.l0] at h, fun _ _ _ _ r h => by simp [millhandref01_Order.j1] at h⟩
 | k + 1 => by
  obtain ⟨ih0, ih1⟩ := millhandref01_Order.mono_l k
  refine ⟨?_, ?_⟩
  ·
   intro y0 y1 y2
   unfold millhandref01_Order.l0
   repeat' first
   | (with_reducible exact ih0 _ _ _)
   | (with_reducible exact ih1 _ _ _ _)
   | (with_reducible exact LeO.refl _)
   | (with_reducible exact LeO.none _)
   | (with_reducible refine LeO.ite ?_ ?_)
   | (with_reducible refine LeO.bind ?_ (fun _ => ?_))
   | exact ih0 _ _ _
   | exact ih1 _ _ _ _
   | exact LeO.none _
   | refine LeO.ite ?_ ?_
   | refine LeO.bind ?_ (fun _ => ?_)
  ·
   intro y0 y1 y2 y3
   unfold millhandref01_Order.j1
   repeat' first
   | (with_reducible exact ih0 _ _ _)
   | (with_reducible exact ih1 _ _ _ _)
   | (with_reducible exact LeO.refl _)
   | (with_reducible exact LeO.none _)
   | (with_reducible refine LeO.ite ?_ ?_)
   | (with_reducible refine LeO.bind ?_ (fun _ => ?_))
   | exact ih0 _ _ _
   | exact ih1 _ _ _ _
   | exact LeO.none _
   | refine LeO.ite ?_ ?_
   | refine LeO.bind ?_ (fun _ => ?_)
theorem millhandref01_Order.mono : ∀ a0 a1 k, LeO (millhandref01_Order.f k a0 a1) (millhandref01_Order.f (k + 1) a0 a1) := by
 intro a0 a1 k
 obtain ⟨ih0, ih1⟩ := millhandref01_Order.mono_l k
 unfold millhandref01_Order.f
 repeat' first
   | (with_reducible exact ih0 _ _ _)
   | (with_reducible exact ih1 _ _ _ _)
   | (with_reducible exact LeO.refl _)
   | (with_reducible exact LeO.none _)
   | (with_reducible refine LeO.ite ?_ ?_)
   | (with_reducible refine LeO.bind ?_ (fun _ => ?_))
   | exact ih0 _ _ _
   | exact ih1 _ _ _ _
   | exact LeO.none _
   | refine LeO.ite ?_ ?_
   | refine LeO.bind ?_ (fun _ => ?_)
def millhandref01_Order.T4 : Bool × List (List Nat × List Nat) := (true, [([], []), ([], []), ([0, 1], [0, 1]), ([2], [2]), ([], []), ([], []), ([4, 5], [4, 5]), ([6], [6]), ([], []), ([], []), ([8, 3, 0, 1, 2, 3, 8, 9], [3, 8]), ([9, 7, 10, 0, 1, 2, 3, 4, 5, 6, 7, 8, 9, 10], [7, 9])])
def millhandref01_Order.B4 : List Nat := [0, 0, 3, 7, 0, 0, 48, 112, 0, 0, 783, 2047]
theorem millhandref01_Order.tab4 : rtab .any (opsOf Tryd.f16 4) = millhandref01_Order.T4 := by kernel_rfl
theorem millhandref01_Order.bits4 : waitsOk millhandref01_Order.T4.2 millhandref01_Order.B4 = true := by kernel_rfl
set_option maxHeartbeats 8000000 in
set_option maxRecDepth 100000 in
theorem millhandref01_Order.calls (k : Nat) (A0 : Option Addr) (c0 : Nat) (l0 : List (S50)) (A1 : Option Addr) (c1 : Nat) (l1 : List (S50)) (r : Int) (w : World) (hr0 : Kd.C k50 w A0 l0.length l0) (hc0 : l0.length ≤ c0) (hr1 : Kd.C k50 w A1 l1.length l1) (hc1 : l1.length ≤ c1) (h : millhandref01_Order.f k l0 l1 = some r) :
  Calls Tryd.prog 16 #[.slice A0 l0.length c0, .slice A1 l1.length c1] w fun e w' => e = .returned (.int .i64 r) ∧ Below w.heap.size w w' := by
 have gq1_ := @Ord.gtr_
 have gq2_ := @Ord.leq_
 have gq3_ := @Ord.geq_
 have hu50 := Tryd.underlying50
 have HR0 := Aside0.mk hr0
 have HC0 := Aside0.mk hc0
 clear hr0 hc0
 have HR1 := Aside0.mk hr1
 have HC1 := Aside0.mk hc1
 clear hr1 hc1
 have HB := Aside0.mk (Below.refl w.heap.size w)
 have H : (millhandref01_Order.l0 k l0 l1 0) = some r := h
 clear h
 have H' := Aside0.mk H
 clear H
 go_enter Tryd.func16, Tryd.ntmps16
 go_wp2
 go_loopg [5] k (fun kq v5 w' => ∃ (x5_1 : Int), v5 = .int .i64 x5_1 ∧ Aside0 (millhandref01_Order.l0 kq l0 l1 x5_1 = some r) ∧ Aside0 (kq ≤ k) ∧ Aside0 (Below w.heap.size w w'))
 case atStart => exact ⟨(0), (by first | rfl | (simp; done) | (simp [*]; done)), H', ⟨Nat.le_refl _⟩, ⟨by repeat (first | (with_reducible first | exact HB.out | apply below_alloc | apply pw_below_drewN | apply below_drew1) | exact HB.out)⟩⟩
 case round =>
  clear H'
  try clear c1
  try clear p2
  obtain ⟨x5_1, rfl, HA, HK1, HB⟩ := hrel
  cases gk with
  | zero => exact absurd HA.out (by simp [millhandref01_Order.l0])
  | succ k1 =>
   have H := HA.out
   clear HA
   simp only [millhandref01_Order.l0] at H
   have HC3 := Aside0.mk H
   clear H
   go_upto_region 2 with (fail)
   go_cut [17] (fun v17 wc => ∃ (kq : Nat) (x17_2 : Bool), v17 = .bool x17_2 ∧ Aside0 (millhandref01_Order.j1 kq l0 l1 x5_1 x17_2 = some r) ∧ Aside0 (kq ≤ k1) ∧ Aside0 (Below w.heap.size w wc))
   case first =>
    have H := HC3.out
    clear HC3
    by_cases c4 : x5_1 < (l0.length : Int)
    ·
     rw [if_pos c4] at H
     have c4b0 : decide (x5_1 < (l0.length : Int)) = true := decide_eq_true c4
     clear c4
     (first | rw [c4b0] | (simp only [i64_w, i32_w]; rw [c4b0]) | skip)
     have H' := Aside0.mk H
     clear H
     go_wp2
     go_meet
     case rel => exact ⟨_, (decide (x5_1 < (l1.length : Int))), (by first | rfl | (simp; done) | (simp [*]; done)), H', ⟨by have := HK1.out; first | omega | exact Nat.le_refl _⟩, ⟨by repeat (first | (with_reducible first | exact HB.out | apply below_alloc | apply pw_below_drewN | apply below_drew1) | exact HB.out)⟩⟩
    ·
     rw [if_neg c4] at H
     have c4b0 : decide (x5_1 < (l0.length : Int)) = false := decide_eq_false c4
     clear c4
     (first | rw [c4b0] | (simp only [i64_w, i32_w]; rw [c4b0]) | skip)
     have H' := Aside0.mk H
     clear H
     go_wp2
     go_meet
     case rel => exact ⟨_, (false), (by first | rfl | (simp; done) | (simp [*]; done)), H', ⟨by have := HK1.out; first | omega | exact Nat.le_refl _⟩, ⟨by repeat (first | (with_reducible first | exact HB.out | apply below_alloc | apply pw_below_drewN | apply below_drew1) | exact HB.out)⟩⟩
   case rest =>
    clear HC3
    try clear c1
    try clear p2
    try clear c4
    try clear c4b0
    try clear p2
    obtain ⟨kq, x17_2, rfl, HA, HJ2, HB⟩ := hcut
    cases kq with
    | zero => exact absurd HA.out (by simp [millhandref01_Order.j1])
    | succ kj2 =>
     have H := HA.out
     clear HA
     simp only [millhandref01_Order.j1] at H
     by_cases c5 : x17_2 = true
     ·
      subst c5
      have H1 : (if 0 ≤ x5_1 then (if x5_1 < (l0.length : Int) then (if x5_1 < (l1.length : Int) then (if (((rd_T50 l0 x5_1).f0) == ((rd_T50 l1 x5_1).f0) && (((rd_T50 l0 x5_1).f1) == ((rd_T50 l1 x5_1).f1) && ((((rd_T50 l0 x5_1).f2).toList) == (((rd_T50 l1 x5_1).f2).toList)))) = true then (millhandref01_Order.l0 kj2 l0 l1 (wrap64 (x5_1 + 1))) else (if (((rd_T50 l0 x5_1).f0) != ((rd_T50 l1 x5_1).f0)) = true then (if (rd_T50 l1 x5_1).f0 = true then (some (-1)) else (some 1)) else (if ((rd_T50 l0 x5_1).f1) < ((rd_T50 l1 x5_1).f1) then (some (-1)) else (if (Op.bytesLess (((rd_T50 l0 x5_1).f2).toList) (((rd_T50 l1 x5_1).f2).toList)) = true then (some (-1)) else (some 1))))) else (none)) else (none)) else (none)) = some r := by rw [if_pos rfl] at H; exact H
      clear H
      have H := H1
      clear H1
      by_cases c6 : 0 ≤ x5_1
      ·
       rw [if_pos c6] at H
       have c6b0 : decide (0 ≤ x5_1) = true := decide_eq_true c6
       clear c6
       by_cases c7 : x5_1 < (l0.length : Int)
       ·
        rw [if_pos c7] at H
        have c7b0 : decide (x5_1 < (l0.length : Int)) = true := decide_eq_true c7
        clear c7
        by_cases c8 : x5_1 < (l1.length : Int)
        ·
         rw [if_pos c8] at H
         have c8b0 : decide (x5_1 < (l1.length : Int)) = true := decide_eq_true c8
         clear c8
         by_cases c9 : (((rd_T50 l0 x5_1).f0) == ((rd_T50 l1 x5_1).f0) && (((rd_T50 l0 x5_1).f1) == ((rd_T50 l1 x5_1).f1) && ((((rd_T50 l0 x5_1).f2).toList) == (((rd_T50 l1 x5_1).f2).toList)))) = true
         ·
          rw [if_pos c9] at H
          have c9b0 : (((rd_T50 l0 x5_1).f0) == ((rd_T50 l1 x5_1).f0) && (((rd_T50 l0 x5_1).f1) == ((rd_T50 l1 x5_1).f1) && ((((rd_T50 l0 x5_1).f2).toList) == (((rd_T50 l1 x5_1).f2).toList)))) = true := c9
          (try (have c9b1 : decide (((rd_T50 l0 x5_1).f0) = ((rd_T50 l1 x5_1).f0) && (((rd_T50 l0 x5_1).f1) == ((rd_T50 l1 x5_1).f1) && ((((rd_T50 l0 x5_1).f2).toList) == (((rd_T50 l1 x5_1).f2).toList)))) = true := by simpa using c9))
          (try (have c9b2 : (((rd_T50 l0 x5_1).f0) == ((rd_T50 l1 x5_1).f0) && (((rd_T50 l0 x5_1).f1) == ((rd_T50 l1 x5_1).f1) && ((((rd_T50 l0 x5_1).f2).toList) == (((rd_T50 l1 x5_1).f2).toList)))) = true := by simpa using c9))
          clear c9
          have H' := Aside0.mk H
          clear H
          try go_wp2
          have n0_ := Aside0.mk (below_drew1 HB.out)
          clear HB
          have HB := n0_
          clear n0_
          have p184 : 0 ≤ (x5_1 : Int) := of_decide_eq_true (by first | (with_reducible assumption) | assumption)
          have q184 : x5_1 < (l0.length : Int) := of_decide_eq_true (by first | (with_reducible assumption) | assumption)
          obtain ⟨ad184, e184, hx184_0, hx184_1, hx184_2⟩ := at_T50 HR0.out x5_1 p184 q184
          have hw184_2 := hx184_2
          have hw184_1 := hx184_1
          have hw184_0 := hx184_0
          cases e184
          replace hx184_0 := cl_ HB.out hx184_0
          replace hx184_1 := cl_ HB.out hx184_1
          replace hx184_2 := cl_ HB.out hx184_2
          replace p184 := eq_true p184
          replace q184 := eq_true q184
          have p185 : 0 ≤ (x5_1 : Int) := of_decide_eq_true (by first | (with_reducible assumption) | assumption)
          have q185 : x5_1 < (l1.length : Int) := of_decide_eq_true (by first | (with_reducible assumption) | assumption)
          obtain ⟨ad185, e185, hx185_0, hx185_1, hx185_2⟩ := at_T50 HR1.out x5_1 p185 q185
          have hw185_2 := hx185_2
          have hw185_1 := hx185_1
          have hw185_0 := hx185_0
          cases e185
          replace hx185_0 := cl_ HB.out hx185_0
          replace hx185_1 := cl_ HB.out hx185_1
          replace hx185_2 := cl_ HB.out hx185_2
          replace p185 := eq_true p185
          replace q185 := eq_true q185
          refine start_ (n := 12) (S := fun w' => w'.cell? (ad184.add ((x5_1).toNat * 3)) = some (.bool ((rd_T50 l0 x5_1).f0)) ∧ w'.cell? ⟨(ad184.add ((x5_1).toNat * 3)).block, (ad184.add ((x5_1).toNat * 3)).off + 1, none⟩ = some (.int .u64 ((rd_T50 l0 x5_1).f1)) ∧ w'.cell? ⟨(ad184.add ((x5_1).toNat * 3)).block, (ad184.add ((x5_1).toNat * 3)).off + 2, none⟩ = some (.string ((rd_T50 l0 x5_1).f2)) ∧ w'.cell? (ad185.add ((x5_1).toNat * 3)) = some (.bool ((rd_T50 l1 x5_1).f0)) ∧ w'.cell? ⟨(ad185.add ((x5_1).toNat * 3)).block, (ad185.add ((x5_1).toNat * 3)).off + 1, none⟩ = some (.int .u64 ((rd_T50 l1 x5_1).f1)) ∧ w'.cell? ⟨(ad185.add ((x5_1).toNat * 3)).block, (ad185.add ((x5_1).toNat * 3)).off + 2, none⟩ = some (.string ((rd_T50 l1 x5_1).f2))) (ds := []) (b_ 12 0) (by kernel_rfl) rfl rfl ⟨(cl_ HB.out hw184_0), (cl_ HB.out hw184_1), (cl_ HB.out hw184_2), (cl_ HB.out hw185_0), (cl_ HB.out hw185_1), (cl_ HB.out hw185_2)⟩ (fun hHeld => ?_); refine with_tabW millhandref01_Order.tab4 millhandref01_Order.bits4 (fun HT_ HW_ => ?_)
          generalize wc.drew = w10 at HB hx184_0 hx184_1 hx184_2 hx185_0 hx185_1 hx185_2 hHeld ⊢
          refine pA_ 0 20 ?_ (b_ 12 1) (any_of HT_.out (by kernel_rfl)) rfl rfl (fun _ _ _ h => h) (by rfl) ?_ ?_ ?_ ?_
          rotate_left
          ·
           intro w'
           go_simp
           with_reducible rfl
          rotate_left
          ·
           simp only [Act.put, sa_, s0_, s1_, i64_w, i32_w]
           rfl
          refine pA_ 1 21 ?_ (b_ 12 3) (any_of HT_.out (by kernel_rfl)) rfl rfl (fun _ _ _ h => h) (by rfl) ?_ ?_ ?_ ?_
          rotate_left
          ·
           intro w'
           go_simp
           with_reducible rfl
          rotate_left
          ·
           simp only [Act.put, sa_, s0_, s1_, i64_w, i32_w]
           rfl
          refine pA_ 2 22 ?_ (b_ 12 7) (any_of HT_.out (by kernel_rfl)) rfl rfl (fun _ _ _ h => h) (by rfl) ?_ ?_ ?_ ?_
          rotate_left
          ·
           intro w'
           go_simp
           with_reducible rfl
          rotate_left
          ·
           simp only [Act.put, sa_, s0_, s1_, i64_w, i32_w]
           rfl
          refine pA_ 4 24 ?_ (b_ 12 23) (any_of HT_.out (by kernel_rfl)) rfl rfl (fun _ _ _ h => h) (by rfl) ?_ ?_ ?_ ?_
          rotate_left
          ·
           intro w'
           go_simp
           with_reducible rfl
          rotate_left
          ·
           simp only [Act.put, sa_, s0_, s1_, i64_w, i32_w]
           rfl
          refine pA_ 5 25 ?_ (b_ 12 55) (any_of HT_.out (by kernel_rfl)) rfl rfl (fun _ _ _ h => h) (by rfl) ?_ ?_ ?_ ?_
          rotate_left
          ·
           intro w'
           go_simp
           with_reducible rfl
          rotate_left
          ·
           simp only [Act.put, sa_, s0_, s1_, i64_w, i32_w]
           rfl
          refine pA_ 6 26 ?_ (b_ 12 119) (any_of HT_.out (by kernel_rfl)) rfl rfl (fun _ _ _ h => h) (by rfl) ?_ ?_ ?_ ?_
          rotate_left
          ·
           intro w'
           go_simp
           with_reducible rfl
          rotate_left
          ·
           simp only [Act.put, sa_, s0_, s1_, i64_w, i32_w]
           rfl
          refine tA_ 3 23 ?_ (b_ 12 127) (take_ofW HT_.out HW_.out (by kernel_rfl)) rfl rfl (fun _ _ _ h => h) (by rfl) ?_ hHeld ?_ ?_ ?_
          rotate_left
          ·
           rintro w' ⟨s0, s1, s2, s3, s4, s5⟩
           go_simp
           with_reducible rfl
          rotate_left
          ·
           simp only [Act.put, sa_, s0_, s1_, i64_w, i32_w]
           rfl
          refine tA_ 7 27 ?_ (b_ 12 255) (take_ofW HT_.out HW_.out (by kernel_rfl)) rfl rfl (fun _ _ _ h => h) (by rfl) ?_ hHeld ?_ ?_ ?_
          rotate_left
          ·
           rintro w' ⟨s0, s1, s2, s3, s4, s5⟩
           go_simp
           with_reducible rfl
          rotate_left
          ·
           simp only [Act.put, sa_, s0_, s1_, i64_w, i32_w]
           rfl
          refine join_ (σ := Nat × Nat) 2 (b_ 12 1023) (fun s_ => [(6, .pointer (some ⟨s_.1, 0, none⟩)), (7, .pointer (some ⟨s_.2, 0, none⟩))]) (fun s_ w' => (w'.cell? (ad184.add ((x5_1).toNat * 3)) = some (.bool ((rd_T50 l0 x5_1).f0)) ∧ w'.cell? ⟨(ad184.add ((x5_1).toNat * 3)).block, (ad184.add ((x5_1).toNat * 3)).off + 1, none⟩ = some (.int .u64 ((rd_T50 l0 x5_1).f1)) ∧ w'.cell? ⟨(ad184.add ((x5_1).toNat * 3)).block, (ad184.add ((x5_1).toNat * 3)).off + 2, none⟩ = some (.string ((rd_T50 l0 x5_1).f2)) ∧ w'.cell? (ad185.add ((x5_1).toNat * 3)) = some (.bool ((rd_T50 l1 x5_1).f0)) ∧ w'.cell? ⟨(ad185.add ((x5_1).toNat * 3)).block, (ad185.add ((x5_1).toNat * 3)).off + 1, none⟩ = some (.int .u64 ((rd_T50 l1 x5_1).f1)) ∧ w'.cell? ⟨(ad185.add ((x5_1).toNat * 3)).block, (ad185.add ((x5_1).toNat * 3)).off + 2, none⟩ = some (.string ((rd_T50 l1 x5_1).f2))) ∧ (w'.heap[s_.1]? = some (.cells #[.bool false, .int .u64 0, .string (⟨#[]⟩ : ByteArray)] 50 (0, 0))) ∧ (w'.heap[s_.2]? = some (.cells #[.bool false, .int .u64 0, .string (⟨#[]⟩ : ByteArray)] 50 (0, 0))) ∧ (w.heap.size ≤ s_.1) ∧ (w.heap.size ≤ s_.1) ∧ (s_.2 ≠ s_.1) ∧ (s_.1 ≠ s_.2) ∧ (w.heap.size ≤ s_.2) ∧ (w.heap.size ≤ s_.2) ∧ (Below w.heap.size w w')) ?_ ?_
          rotate_left
          ·
           intro hCont
           refine two_ (i := 8) (j := 9) (Ni := some 6) (Nj := some 7) (b_ 12 511) (b_ 12 767) rfl rfl rfl rfl (two_of HT_.out (by kernel_rfl)) (by decide) (by decide) (fun K hK => ?_) (fun K hK => ?_)
           ·
            skip
            refine box_step ?hg (N := 6) ?hd (cs := #[.bool false, .int .u64 0, .string (⟨#[]⟩ : ByteArray)]) (t := 50) ?hr ?_; (case hd => rfl); (case hg => rfl); (case hr => first | (go_simp; done) | (go_simp; rfl))
            intro gb186 hg w11 hbox hb
            obtain ⟨HB, BK186, GW186, GE186⟩ := And.intro (Aside0.mk (below_step (by repeat (first | (with_reducible first | exact HB.out | apply below_alloc | apply pw_below_drewN | apply below_drew1) | exact HB.out)) hb)) (And.intro (Aside0.mk (hbox)) (And.intro (Aside0.mk ((by rw [hg]; exact (below_size (by repeat (first | (with_reducible first | exact HB.out | apply below_alloc | apply pw_below_drewN | apply below_drew1) | exact HB.out))) : w.heap.size ≤ gb186))) (Aside0.mk ((by rw [hg]; exact (below_size (by repeat (first | (with_reducible first | exact HB.out | apply below_alloc | apply pw_below_drewN | apply below_drew1) | exact HB.out))) : w.heap.size ≤ gb186)))))
            clear hb hbox hg
            refine hK.out _ _ ⟨(cl_ HB.out hw184_0), (cl_ HB.out hw184_1), (cl_ HB.out hw184_2), (cl_ HB.out hw185_0), (cl_ HB.out hw185_1), (cl_ HB.out hw185_2)⟩ (fun hHeld => ?_)
            clear hK K
            refine norm_ (a' := ?_) ?_ ?_
            rotate_left
            ·
             show Act.put _ (some 6) _ = _
             simp only [Act.put, sa_, s0_, s1_, i64_w, i32_w]
             rfl
            refine one_ (i := 9) (N := some 7) (b_ 12 1023) rfl rfl (one_of HT_.out (by kernel_rfl)) (by decide) (fun K hK => ?_)
            refine box_step ?hg (N := 7) ?hd (cs := #[.bool false, .int .u64 0, .string (⟨#[]⟩ : ByteArray)]) (t := 50) ?hr ?_; (case hd => rfl); (case hg => rfl); (case hr => first | (go_simp; done) | (go_simp; rfl))
            intro gb187 hg w12 hbox hb
            obtain ⟨BK186, HB, BK187, GW187, GE187, NB186_187, NB187_186⟩ := And.intro (Aside0.mk (blk_below (g := gb186) (o := .cells #[.bool false, .int .u64 0, .string (⟨#[]⟩ : ByteArray)] 50 (0, 0)) (by (with_reducible repeat (first | refine blk_drewN ?_ _ | refine blk_drew ?_ | refine blk_alloc ?_ _)); exact BK186.out) hb)) (And.intro (Aside0.mk (below_step (by repeat (first | (with_reducible first | exact HB.out | apply below_alloc | apply pw_below_drewN | apply below_drew1 | refine below_set ?_ GE186.out) | exact HB.out)) hb)) (And.intro (Aside0.mk (hbox)) (And.intro (Aside0.mk ((by rw [hg]; exact (below_size (by repeat (first | (with_reducible first | exact HB.out | apply below_alloc | apply pw_below_drewN | apply below_drew1 | refine below_set ?_ GE186.out) | exact HB.out))) : w.heap.size ≤ gb187))) (And.intro (Aside0.mk ((by rw [hg]; exact (below_size (by repeat (first | (with_reducible first | exact HB.out | apply below_alloc | apply pw_below_drewN | apply below_drew1 | refine below_set ?_ GE186.out) | exact HB.out))) : w.heap.size ≤ gb187))) (And.intro (Aside0.mk ((by rw [hg]; exact Nat.ne_of_lt (blk_lt (g := gb186) (o := .cells #[.bool false, .int .u64 0, .string (⟨#[]⟩ : ByteArray)] 50 (0, 0)) (by (with_reducible repeat (first | refine blk_drewN ?_ _ | refine blk_drew ?_ | refine blk_alloc ?_ _)); exact BK186.out)) : gb186 ≠ gb187))) (Aside0.mk ((by rw [hg]; exact Nat.ne_of_gt (blk_lt (g := gb186) (o := .cells #[.bool false, .int .u64 0, .string (⟨#[]⟩ : ByteArray)] 50 (0, 0)) (by (with_reducible repeat (first | refine blk_drewN ?_ _ | refine blk_drew ?_ | refine blk_alloc ?_ _)); exact BK186.out)) : gb187 ≠ gb186))))))))
            clear hb hbox hg
            refine hK.out _ _ ⟨(cl_ HB.out hw184_0), (cl_ HB.out hw184_1), (cl_ HB.out hw184_2), (cl_ HB.out hw185_0), (cl_ HB.out hw185_1), (cl_ HB.out hw185_2)⟩ (fun hHeld => ?_)
            clear hK K
            refine norm_ (a' := ?_) ?_ ?_
            rotate_left
            ·
             show Act.put _ (some 7) _ = _
             simp only [Act.put, sa_, s0_, s1_, i64_w, i32_w]
             rfl
            exact norm_ (by simp only [putAll, Act.put, sa_, s0_, s1_]) (hCont (gb186, gb187) _ ⟨hHeld, (by (with_reducible repeat (first | refine blk_drewN ?_ _ | refine blk_drew ?_ | refine blk_alloc ?_ _)); exact BK186.out), (by (with_reducible repeat (first | refine blk_drewN ?_ _ | refine blk_drew ?_ | refine blk_alloc ?_ _)); exact BK187.out), GW186.out, GE186.out, NB187_186.out, NB186_187.out, GW187.out, GE187.out, (by repeat (first | (with_reducible first | exact HB.out | apply below_alloc | apply pw_below_drewN | apply below_drew1 | refine below_set ?_ GE186.out | refine below_set ?_ GE187.out) | exact HB.out))⟩)
           ·
            skip
            refine box_step ?hg (N := 7) ?hd (cs := #[.bool false, .int .u64 0, .string (⟨#[]⟩ : ByteArray)]) (t := 50) ?hr ?_; (case hd => rfl); (case hg => rfl); (case hr => first | (go_simp; done) | (go_simp; rfl))
            intro gb187 hg w11 hbox hb
            obtain ⟨HB, BK187, GW187, GE187⟩ := And.intro (Aside0.mk (below_step (by repeat (first | (with_reducible first | exact HB.out | apply below_alloc | apply pw_below_drewN | apply below_drew1) | exact HB.out)) hb)) (And.intro (Aside0.mk (hbox)) (And.intro (Aside0.mk ((by rw [hg]; exact (below_size (by repeat (first | (with_reducible first | exact HB.out | apply below_alloc | apply pw_below_drewN | apply below_drew1) | exact HB.out))) : w.heap.size ≤ gb187))) (Aside0.mk ((by rw [hg]; exact (below_size (by repeat (first | (with_reducible first | exact HB.out | apply below_alloc | apply pw_below_drewN | apply below_drew1) | exact HB.out))) : w.heap.size ≤ gb187)))))
            clear hb hbox hg
            refine hK.out _ _ ⟨(cl_ HB.out hw184_0), (cl_ HB.out hw184_1), (cl_ HB.out hw184_2), (cl_ HB.out hw185_0), (cl_ HB.out hw185_1), (cl_ HB.out hw185_2)⟩ (fun hHeld => ?_)
            clear hK K
            refine norm_ (a' := ?_) ?_ ?_
            rotate_left
            ·
             show Act.put _ (some 7) _ = _
             simp only [Act.put, sa_, s0_, s1_, i64_w, i32_w]
             rfl
            refine one_ (i := 8) (N := some 6) (b_ 12 1023) rfl rfl (one_of HT_.out (by kernel_rfl)) (by decide) (fun K hK => ?_)
            refine box_step ?hg (N := 6) ?hd (cs := #[.bool false, .int .u64 0, .string (⟨#[]⟩ : ByteArray)]) (t := 50) ?hr ?_; (case hd => rfl); (case hg => rfl); (case hr => first | (go_simp; done) | (go_simp; rfl))
            intro gb186 hg w12 hbox hb
            obtain ⟨BK187, HB, BK186, GW186, GE186, NB187_186, NB186_187⟩ := And.intro (Aside0.mk (blk_below (g := gb187) (o := .cells #[.bool false, .int .u64 0, .string (⟨#[]⟩ : ByteArray)] 50 (0, 0)) (by (with_reducible repeat (first | refine blk_drewN ?_ _ | refine blk_drew ?_ | refine blk_alloc ?_ _)); exact BK187.out) hb)) (And.intro (Aside0.mk (below_step (by repeat (first | (with_reducible first | exact HB.out | apply below_alloc | apply pw_below_drewN | apply below_drew1 | refine below_set ?_ GE187.out) | exact HB.out)) hb)) (And.intro (Aside0.mk (hbox)) (And.intro (Aside0.mk ((by rw [hg]; exact (below_size (by repeat (first | (with_reducible first | exact HB.out | apply below_alloc | apply pw_below_drewN | apply below_drew1 | refine below_set ?_ GE187.out) | exact HB.out))) : w.heap.size ≤ gb186))) (And.intro (Aside0.mk ((by rw [hg]; exact (below_size (by repeat (first | (with_reducible first | exact HB.out | apply below_alloc | apply pw_below_drewN | apply below_drew1 | refine below_set ?_ GE187.out) | exact HB.out))) : w.heap.size ≤ gb186))) (And.intro (Aside0.mk ((by rw [hg]; exact Nat.ne_of_lt (blk_lt (g := gb187) (o := .cells #[.bool false, .int .u64 0, .string (⟨#[]⟩ : ByteArray)] 50 (0, 0)) (by (with_reducible repeat (first | refine blk_drewN ?_ _ | refine blk_drew ?_ | refine blk_alloc ?_ _)); exact BK187.out)) : gb187 ≠ gb186))) (Aside0.mk ((by rw [hg]; exact Nat.ne_of_gt (blk_lt (g := gb187) (o := .cells #[.bool false, .int .u64 0, .string (⟨#[]⟩ : ByteArray)] 50 (0, 0)) (by (with_reducible repeat (first | refine blk_drewN ?_ _ | refine blk_drew ?_ | refine blk_alloc ?_ _)); exact BK187.out)) : gb186 ≠ gb187))))))))
            clear hb hbox hg
            refine hK.out _ _ ⟨(cl_ HB.out hw184_0), (cl_ HB.out hw184_1), (cl_ HB.out hw184_2), (cl_ HB.out hw185_0), (cl_ HB.out hw185_1), (cl_ HB.out hw185_2)⟩ (fun hHeld => ?_)
            clear hK K
            refine norm_ (a' := ?_) ?_ ?_
            rotate_left
            ·
             show Act.put _ (some 6) _ = _
             simp only [Act.put, sa_, s0_, s1_, i64_w, i32_w]
             rfl
            exact norm_ (by simp only [putAll, Act.put, sa_, s0_, s1_]) (hCont (gb186, gb187) _ ⟨hHeld, (by (with_reducible repeat (first | refine blk_drewN ?_ _ | refine blk_drew ?_ | refine blk_alloc ?_ _)); exact BK186.out), (by (with_reducible repeat (first | refine blk_drewN ?_ _ | refine blk_drew ?_ | refine blk_alloc ?_ _)); exact BK187.out), GW186.out, GE186.out, NB187_186.out, NB186_187.out, GW187.out, GE187.out, (by repeat (first | (with_reducible first | exact HB.out | apply below_alloc | apply pw_below_drewN | apply below_drew1 | refine below_set ?_ GE187.out | refine below_set ?_ GE186.out) | exact HB.out))⟩)
          rintro ⟨gb186, gb187⟩ w13 ⟨hS_, h0_, h1_, h2_, h3_, h4_, h5_, h6_, h7_, h8_⟩
          have n0_ : Aside0 (w13.heap[gb186]? = some (.cells #[.bool false, .int .u64 0, .string (⟨#[]⟩ : ByteArray)] 50 (0, 0))) := ⟨h0_⟩
          have n1_ : Aside0 (w13.heap[gb187]? = some (.cells #[.bool false, .int .u64 0, .string (⟨#[]⟩ : ByteArray)] 50 (0, 0))) := ⟨h1_⟩
          have n2_ : Aside0 (w.heap.size ≤ gb186) := ⟨h2_⟩
          have n3_ : Aside0 (w.heap.size ≤ gb186) := ⟨h3_⟩
          have n4_ : Aside0 (gb187 ≠ gb186) := ⟨h4_⟩
          have n5_ : Aside0 (gb186 ≠ gb187) := ⟨h5_⟩
          have n6_ : Aside0 (w.heap.size ≤ gb187) := ⟨h6_⟩
          have n7_ : Aside0 (w.heap.size ≤ gb187) := ⟨h7_⟩
          have n8_ : Aside0 (Below w.heap.size w w13) := ⟨h8_⟩
          clear HB
          clear h0_ h1_ h2_ h3_ h4_ h5_ h6_ h7_ h8_
          have BK186 := n0_
          have BK187 := n1_
          have GW186 := n2_
          have GE186 := n3_
          have NB187_186 := n4_
          have NB186_187 := n5_
          have GW187 := n6_
          have GE187 := n7_
          have HB := n8_
          clear n0_ n1_ n2_ n3_ n4_ n5_ n6_ n7_ n8_
          have hHeld : w13.cell? (ad184.add ((x5_1).toNat * 3)) = some (.bool ((rd_T50 l0 x5_1).f0)) ∧ w13.cell? ⟨(ad184.add ((x5_1).toNat * 3)).block, (ad184.add ((x5_1).toNat * 3)).off + 1, none⟩ = some (.int .u64 ((rd_T50 l0 x5_1).f1)) ∧ w13.cell? ⟨(ad184.add ((x5_1).toNat * 3)).block, (ad184.add ((x5_1).toNat * 3)).off + 2, none⟩ = some (.string ((rd_T50 l0 x5_1).f2)) ∧ w13.cell? (ad185.add ((x5_1).toNat * 3)) = some (.bool ((rd_T50 l1 x5_1).f0)) ∧ w13.cell? ⟨(ad185.add ((x5_1).toNat * 3)).block, (ad185.add ((x5_1).toNat * 3)).off + 1, none⟩ = some (.int .u64 ((rd_T50 l1 x5_1).f1)) ∧ w13.cell? ⟨(ad185.add ((x5_1).toNat * 3)).block, (ad185.add ((x5_1).toNat * 3)).off + 2, none⟩ = some (.string ((rd_T50 l1 x5_1).f2)) := hS_
          refine norm_ (a' := ?_) ?_ ?_
          rotate_left
          ·
           simp only [putAll, Act.put, sa_, s0_, s1_]
           rfl
          refine one_ (i := 10) (N := none) (b_ 12 2047) rfl rfl (one_of HT_.out (by kernel_rfl)) (by decide) (fun K hK => ?_)
          have hs14 : w13.cell? ⟨gb186, 0, none⟩ = some (.bool false) := (blk_cell BK186.out 0).trans rfl
          have hfs14 := blk_frozen BK186.out 0
          have hns14_1 := NB187_186.out
          have hms14_1 := NB186_187.out
          have hs15 : w13.cell? ⟨gb186, 1, none⟩ = some (.int .u64 0) := (blk_cell BK186.out 1).trans rfl
          have hfs15 := blk_frozen BK186.out 1
          have hns15_1 := NB187_186.out
          have hms15_1 := NB186_187.out
          have hs16 : w13.cell? ⟨gb186, 2, none⟩ = some (.string (⟨#[]⟩ : ByteArray)) := (blk_cell BK186.out 2).trans rfl
          have hfs16 := blk_frozen BK186.out 2
          have hns16_1 := NB187_186.out
          have hms16_1 := NB186_187.out
          refine skip_ (w1 := ?_) (by rfl) rfl ?_ ?_
          rotate_left
          ·
           go_simp
           rfl
          refine hK.out _ _ ⟨((cell_far (p := ⟨gb186, _, none⟩) (ne_ hw184_0 GW186.out) _).trans (((cell_far (p := ⟨gb186, _, none⟩) (ne_ hw184_0 GW186.out) _).trans (((cell_far (p := ⟨gb186, _, none⟩) (ne_ hw184_0 GW186.out) _).trans (hHeld.1)))))), ((cell_far (p := ⟨gb186, _, none⟩) (ne_ hw184_1 GW186.out) _).trans (((cell_far (p := ⟨gb186, _, none⟩) (ne_ hw184_1 GW186.out) _).trans (((cell_far (p := ⟨gb186, _, none⟩) (ne_ hw184_1 GW186.out) _).trans (hHeld.2.1)))))), ((cell_far (p := ⟨gb186, _, none⟩) (ne_ hw184_2 GW186.out) _).trans (((cell_far (p := ⟨gb186, _, none⟩) (ne_ hw184_2 GW186.out) _).trans (((cell_far (p := ⟨gb186, _, none⟩) (ne_ hw184_2 GW186.out) _).trans (hHeld.2.2.1)))))), ((cell_far (p := ⟨gb186, _, none⟩) (ne_ hw185_0 GW186.out) _).trans (((cell_far (p := ⟨gb186, _, none⟩) (ne_ hw185_0 GW186.out) _).trans (((cell_far (p := ⟨gb186, _, none⟩) (ne_ hw185_0 GW186.out) _).trans (hHeld.2.2.2.1)))))), ((cell_far (p := ⟨gb186, _, none⟩) (ne_ hw185_1 GW186.out) _).trans (((cell_far (p := ⟨gb186, _, none⟩) (ne_ hw185_1 GW186.out) _).trans (((cell_far (p := ⟨gb186, _, none⟩) (ne_ hw185_1 GW186.out) _).trans (hHeld.2.2.2.2.1)))))), ((cell_far (p := ⟨gb186, _, none⟩) (ne_ hw185_2 GW186.out) _).trans (((cell_far (p := ⟨gb186, _, none⟩) (ne_ hw185_2 GW186.out) _).trans (((cell_far (p := ⟨gb186, _, none⟩) (ne_ hw185_2 GW186.out) _).trans (hHeld.2.2.2.2.2))))))⟩ (fun hHeld => ?_)
          clear hK K
          refine one_ (i := 11) (N := none) (b_ 12 4095) rfl rfl (one_of HT_.out (by kernel_rfl)) (by decide) (fun K hK => ?_)
          have hs17 : w13.cell? ⟨gb187, 0, none⟩ = some (.bool false) := (blk_cell BK187.out 0).trans rfl
          have hfs17 := blk_frozen BK187.out 0
          have hns17_0 := NB186_187.out
          have hms17_0 := NB187_186.out
          have hs18 : w13.cell? ⟨gb187, 1, none⟩ = some (.int .u64 0) := (blk_cell BK187.out 1).trans rfl
          have hfs18 := blk_frozen BK187.out 1
          have hns18_0 := NB186_187.out
          have hms18_0 := NB187_186.out
          have hs19 : w13.cell? ⟨gb187, 2, none⟩ = some (.string (⟨#[]⟩ : ByteArray)) := (blk_cell BK187.out 2).trans rfl
          have hfs19 := blk_frozen BK187.out 2
          have hns19_0 := NB186_187.out
          have hms19_0 := NB187_186.out
          refine skip_ (w1 := ?_) (by rfl) rfl ?_ ?_
          rotate_left
          ·
           go_simp
           rfl
          refine hK.out _ _ ⟨((cell_far (p := ⟨gb187, _, none⟩) (ne_ hw184_0 GW187.out) _).trans (((cell_far (p := ⟨gb187, _, none⟩) (ne_ hw184_0 GW187.out) _).trans (((cell_far (p := ⟨gb187, _, none⟩) (ne_ hw184_0 GW187.out) _).trans (hHeld.1)))))), ((cell_far (p := ⟨gb187, _, none⟩) (ne_ hw184_1 GW187.out) _).trans (((cell_far (p := ⟨gb187, _, none⟩) (ne_ hw184_1 GW187.out) _).trans (((cell_far (p := ⟨gb187, _, none⟩) (ne_ hw184_1 GW187.out) _).trans (hHeld.2.1)))))), ((cell_far (p := ⟨gb187, _, none⟩) (ne_ hw184_2 GW187.out) _).trans (((cell_far (p := ⟨gb187, _, none⟩) (ne_ hw184_2 GW187.out) _).trans (((cell_far (p := ⟨gb187, _, none⟩) (ne_ hw184_2 GW187.out) _).trans (hHeld.2.2.1)))))), ((cell_far (p := ⟨gb187, _, none⟩) (ne_ hw185_0 GW187.out) _).trans (((cell_far (p := ⟨gb187, _, none⟩) (ne_ hw185_0 GW187.out) _).trans (((cell_far (p := ⟨gb187, _, none⟩) (ne_ hw185_0 GW187.out) _).trans (hHeld.2.2.2.1)))))), ((cell_far (p := ⟨gb187, _, none⟩) (ne_ hw185_1 GW187.out) _).trans (((cell_far (p := ⟨gb187, _, none⟩) (ne_ hw185_1 GW187.out) _).trans (((cell_far (p := ⟨gb187, _, none⟩) (ne_ hw185_1 GW187.out) _).trans (hHeld.2.2.2.2.1)))))), ((cell_far (p := ⟨gb187, _, none⟩) (ne_ hw185_2 GW187.out) _).trans (((cell_far (p := ⟨gb187, _, none⟩) (ne_ hw185_2 GW187.out) _).trans (((cell_far (p := ⟨gb187, _, none⟩) (ne_ hw185_2 GW187.out) _).trans (hHeld.2.2.2.2.2))))))⟩ (fun hHeld => ?_)
          clear hK K
          refine done_ (done_of HT_.out (by kernel_rfl)) ?_
          have hnb20 := NB186_187.out
          have hnc20 := NB187_186.out
          have hcz21_0 : w13.cell? ⟨gb186, 0, none⟩ = some (.bool false) := (blk_cell BK186.out 0).trans rfl
          have hcz21_1 : w13.cell? ⟨gb186, 1, none⟩ = some (.int .u64 0) := (blk_cell BK186.out 1).trans rfl
          have hcz21_2 : w13.cell? ⟨gb186, 2, none⟩ = some (.string (⟨#[]⟩ : ByteArray)) := (blk_cell BK186.out 2).trans rfl
          have hfz21_0 := blk_frozen BK186.out 0
          have hfz21_1 := blk_frozen BK186.out 1
          have hfz21_2 := blk_frozen BK186.out 2
          have hcz22_0 : w13.cell? ⟨gb187, 0, none⟩ = some (.bool false) := (blk_cell BK187.out 0).trans rfl
          have hcz22_1 : w13.cell? ⟨gb187, 1, none⟩ = some (.int .u64 0) := (blk_cell BK187.out 1).trans rfl
          have hcz22_2 : w13.cell? ⟨gb187, 2, none⟩ = some (.string (⟨#[]⟩ : ByteArray)) := (blk_cell BK187.out 2).trans rfl
          have hfz22_0 := blk_frozen BK187.out 0
          have hfz22_1 := blk_frozen BK187.out 1
          have hfz22_2 := blk_frozen BK187.out 2
          try go_wp2
          go_roundg kj2
          case measure => have := HK1.out; have := HJ2.out; omega
          case rel => exact ⟨(wrap64 (x5_1 + 1)), (by first | rfl | (simp; done) | (simp [*]; done)), H', ⟨by have := HK1.out; have := HJ2.out; omega⟩, ⟨by repeat (first | (with_reducible first | exact HB.out | apply below_alloc | apply pw_below_drewN | apply below_drew1 | refine below_set ?_ GE186.out | refine below_set ?_ GE187.out) | exact HB.out)⟩⟩
         ·
          rw [if_neg c9] at H
          have c9b0 : (((rd_T50 l0 x5_1).f0) == ((rd_T50 l1 x5_1).f0) && (((rd_T50 l0 x5_1).f1) == ((rd_T50 l1 x5_1).f1) && ((((rd_T50 l0 x5_1).f2).toList) == (((rd_T50 l1 x5_1).f2).toList)))) = false := by simpa using c9
          (try (have c9b1 : decide (((rd_T50 l0 x5_1).f0) = ((rd_T50 l1 x5_1).f0) && (((rd_T50 l0 x5_1).f1) == ((rd_T50 l1 x5_1).f1) && ((((rd_T50 l0 x5_1).f2).toList) == (((rd_T50 l1 x5_1).f2).toList)))) = false := by simpa using c9))
          (try (have c9b2 : (((rd_T50 l0 x5_1).f0) == ((rd_T50 l1 x5_1).f0) && (((rd_T50 l0 x5_1).f1) == ((rd_T50 l1 x5_1).f1) && ((((rd_T50 l0 x5_1).f2).toList) == (((rd_T50 l1 x5_1).f2).toList)))) = false := by simpa using c9))
          (try (have c9b3 : ¬ (((rd_T50 l0 x5_1).f0) = ((rd_T50 l1 x5_1).f0) && (((rd_T50 l0 x5_1).f1) == ((rd_T50 l1 x5_1).f1) && ((((rd_T50 l0 x5_1).f2).toList) == (((rd_T50 l1 x5_1).f2).toList)))) := by simpa using c9))
          clear c9
          by_cases c23 : (((rd_T50 l0 x5_1).f0) != ((rd_T50 l1 x5_1).f0)) = true
          ·
           rw [if_pos c23] at H
           have c23b0 : (((rd_T50 l0 x5_1).f0) != ((rd_T50 l1 x5_1).f0)) = true := c23
           (try (have c23b1 : decide (((rd_T50 l0 x5_1).f0) = ((rd_T50 l1 x5_1).f0)) = false := by simpa using c23))
           (try (have c23b2 : (((rd_T50 l0 x5_1).f0) == ((rd_T50 l1 x5_1).f0)) = false := by simpa using c23))
           (try (have c23b3 : ¬ (((rd_T50 l0 x5_1).f0) = ((rd_T50 l1 x5_1).f0)) := by simpa using c23))
           clear c23
           obtain ⟨bq24, hbq24⟩ : ∃ b_ : Bool, b_ = ((rd_T50 l1 x5_1).f0) := ⟨_, rfl⟩
           replace H : (if bq24 = true then (some (-1)) else (some 1)) = some r := by rw [← hbq24] at H; exact H
           have Nbq24 := Aside0.mk hbq24
           clear hbq24
           by_cases c25 : bq24 = true
           ·
            subst c25
            have H1 : (some (-1)) = some r := by rw [if_pos rfl] at H; exact H
            clear H
            have H := H1
            clear H1
            obtain rfl := Option.some.inj H
            try go_wp2
            have n0_ := Aside0.mk (below_drew1 HB.out)
            clear HB
            have HB := n0_
            clear n0_
            have p184 : 0 ≤ (x5_1 : Int) := of_decide_eq_true (by first | (with_reducible assumption) | assumption)
            have q184 : x5_1 < (l0.length : Int) := of_decide_eq_true (by first | (with_reducible assumption) | assumption)
            obtain ⟨ad184, e184, hx184_0, hx184_1, hx184_2⟩ := at_T50 HR0.out x5_1 p184 q184
            have hw184_2 := hx184_2
            have hw184_1 := hx184_1
            have hw184_0 := hx184_0
            (try rw [← Nbq24.out] at hx184_0)
            cases e184
            replace hx184_0 := cl_ HB.out hx184_0
            replace hx184_1 := cl_ HB.out hx184_1
            replace hx184_2 := cl_ HB.out hx184_2
            replace p184 := eq_true p184
            replace q184 := eq_true q184
            have p185 : 0 ≤ (x5_1 : Int) := of_decide_eq_true (by first | (with_reducible assumption) | assumption)
            have q185 : x5_1 < (l1.length : Int) := of_decide_eq_true (by first | (with_reducible assumption) | assumption)
            obtain ⟨ad185, e185, hx185_0, hx185_1, hx185_2⟩ := at_T50 HR1.out x5_1 p185 q185
            have hw185_2 := hx185_2
            have hw185_1 := hx185_1
            have hw185_0 := hx185_0
            (try rw [← Nbq24.out] at hx185_0)
            cases e185
            replace hx185_0 := cl_ HB.out hx185_0
            replace hx185_1 := cl_ HB.out hx185_1
            replace hx185_2 := cl_ HB.out hx185_2
            replace p185 := eq_true p185
            replace q185 := eq_true q185
            refine start_ (n := 12) (S := fun w' => w'.cell? (ad184.add ((x5_1).toNat * 3)) = some (.bool ((rd_T50 l0 x5_1).f0)) ∧ w'.cell? ⟨(ad184.add ((x5_1).toNat * 3)).block, (ad184.add ((x5_1).toNat * 3)).off + 1, none⟩ = some (.int .u64 ((rd_T50 l0 x5_1).f1)) ∧ w'.cell? ⟨(ad184.add ((x5_1).toNat * 3)).block, (ad184.add ((x5_1).toNat * 3)).off + 2, none⟩ = some (.string ((rd_T50 l0 x5_1).f2)) ∧ w'.cell? (ad185.add ((x5_1).toNat * 3)) = some (.bool true) ∧ w'.cell? ⟨(ad185.add ((x5_1).toNat * 3)).block, (ad185.add ((x5_1).toNat * 3)).off + 1, none⟩ = some (.int .u64 ((rd_T50 l1 x5_1).f1)) ∧ w'.cell? ⟨(ad185.add ((x5_1).toNat * 3)).block, (ad185.add ((x5_1).toNat * 3)).off + 2, none⟩ = some (.string ((rd_T50 l1 x5_1).f2))) (ds := []) (b_ 12 0) (by kernel_rfl) rfl rfl ⟨(by first | exact cl_ HB.out hw184_0 | (rw [Nbq24.out]; exact cl_ HB.out hw184_0)), (cl_ HB.out hw184_1), (cl_ HB.out hw184_2), (by first | exact cl_ HB.out hw185_0 | (rw [Nbq24.out]; exact cl_ HB.out hw185_0)), (cl_ HB.out hw185_1), (cl_ HB.out hw185_2)⟩ (fun hHeld => ?_); refine with_tabW millhandref01_Order.tab4 millhandref01_Order.bits4 (fun HT_ HW_ => ?_)
            generalize wc.drew = w26 at HB hx184_0 hx184_1 hx184_2 hx185_0 hx185_1 hx185_2 hHeld ⊢
            refine pA_ 0 20 ?_ (b_ 12 1) (any_of HT_.out (by kernel_rfl)) rfl rfl (fun _ _ _ h => h) (by rfl) ?_ ?_ ?_ ?_
            rotate_left
            ·
             intro w'
             go_simp
             with_reducible rfl
            rotate_left
            ·
             simp only [Act.put, sa_, s0_, s1_, i64_w, i32_w]
             rfl
            refine pA_ 1 21 ?_ (b_ 12 3) (any_of HT_.out (by kernel_rfl)) rfl rfl (fun _ _ _ h => h) (by rfl) ?_ ?_ ?_ ?_
            rotate_left
            ·
             intro w'
             go_simp
             with_reducible rfl
            rotate_left
            ·
             simp only [Act.put, sa_, s0_, s1_, i64_w, i32_w]
             rfl
            refine pA_ 2 22 ?_ (b_ 12 7) (any_of HT_.out (by kernel_rfl)) rfl rfl (fun _ _ _ h => h) (by rfl) ?_ ?_ ?_ ?_
            rotate_left
            ·
             intro w'
             go_simp
             with_reducible rfl
            rotate_left
            ·
             simp only [Act.put, sa_, s0_, s1_, i64_w, i32_w]
             rfl
            refine pA_ 4 24 ?_ (b_ 12 23) (any_of HT_.out (by kernel_rfl)) rfl rfl (fun _ _ _ h => h) (by rfl) ?_ ?_ ?_ ?_
            rotate_left
            ·
             intro w'
             go_simp
             with_reducible rfl
            rotate_left
            ·
             simp only [Act.put, sa_, s0_, s1_, i64_w, i32_w]
             rfl
            refine pA_ 5 25 ?_ (b_ 12 55) (any_of HT_.out (by kernel_rfl)) rfl rfl (fun _ _ _ h => h) (by rfl) ?_ ?_ ?_ ?_
            rotate_left
            ·
             intro w'
             go_simp
             with_reducible rfl
            rotate_left
            ·
             simp only [Act.put, sa_, s0_, s1_, i64_w, i32_w]
             rfl
            refine pA_ 6 26 ?_ (b_ 12 119) (any_of HT_.out (by kernel_rfl)) rfl rfl (fun _ _ _ h => h) (by rfl) ?_ ?_ ?_ ?_
            rotate_left
            ·
             intro w'
             go_simp
             with_reducible rfl
            rotate_left
            ·
             simp only [Act.put, sa_, s0_, s1_, i64_w, i32_w]
             rfl
            refine tA_ 3 23 ?_ (b_ 12 127) (take_ofW HT_.out HW_.out (by kernel_rfl)) rfl rfl (fun _ _ _ h => h) (by rfl) ?_ hHeld ?_ ?_ ?_
            rotate_left
            ·
             rintro w' ⟨s0, s1, s2, s3, s4, s5⟩
             go_simp
             with_reducible rfl
            rotate_left
            ·
             simp only [Act.put, sa_, s0_, s1_, i64_w, i32_w]
             rfl
            refine tA_ 7 27 ?_ (b_ 12 255) (take_ofW HT_.out HW_.out (by kernel_rfl)) rfl rfl (fun _ _ _ h => h) (by rfl) ?_ hHeld ?_ ?_ ?_
            rotate_left
            ·
             rintro w' ⟨s0, s1, s2, s3, s4, s5⟩
             go_simp
             with_reducible rfl
            rotate_left
            ·
             simp only [Act.put, sa_, s0_, s1_, i64_w, i32_w]
             rfl
            refine join_ (σ := Nat × Nat) 2 (b_ 12 1023) (fun s_ => [(6, .pointer (some ⟨s_.1, 0, none⟩)), (7, .pointer (some ⟨s_.2, 0, none⟩))]) (fun s_ w' => (w'.cell? (ad184.add ((x5_1).toNat * 3)) = some (.bool ((rd_T50 l0 x5_1).f0)) ∧ w'.cell? ⟨(ad184.add ((x5_1).toNat * 3)).block, (ad184.add ((x5_1).toNat * 3)).off + 1, none⟩ = some (.int .u64 ((rd_T50 l0 x5_1).f1)) ∧ w'.cell? ⟨(ad184.add ((x5_1).toNat * 3)).block, (ad184.add ((x5_1).toNat * 3)).off + 2, none⟩ = some (.string ((rd_T50 l0 x5_1).f2)) ∧ w'.cell? (ad185.add ((x5_1).toNat * 3)) = some (.bool true) ∧ w'.cell? ⟨(ad185.add ((x5_1).toNat * 3)).block, (ad185.add ((x5_1).toNat * 3)).off + 1, none⟩ = some (.int .u64 ((rd_T50 l1 x5_1).f1)) ∧ w'.cell? ⟨(ad185.add ((x5_1).toNat * 3)).block, (ad185.add ((x5_1).toNat * 3)).off + 2, none⟩ = some (.string ((rd_T50 l1 x5_1).f2))) ∧ (w'.heap[s_.1]? = some (.cells #[.bool false, .int .u64 0, .string (⟨#[]⟩ : ByteArray)] 50 (0, 0))) ∧ (w'.heap[s_.2]? = some (.cells #[.bool false, .int .u64 0, .string (⟨#[]⟩ : ByteArray)] 50 (0, 0))) ∧ (w.heap.size ≤ s_.1) ∧ (w.heap.size ≤ s_.1) ∧ (s_.2 ≠ s_.1) ∧ (s_.1 ≠ s_.2) ∧ (w.heap.size ≤ s_.2) ∧ (w.heap.size ≤ s_.2) ∧ (Below w.heap.size w w')) ?_ ?_
            rotate_left
            ·
             intro hCont
             refine two_ (i := 8) (j := 9) (Ni := some 6) (Nj := some 7) (b_ 12 511) (b_ 12 767) rfl rfl rfl rfl (two_of HT_.out (by kernel_rfl)) (by decide) (by decide) (fun K hK => ?_) (fun K hK => ?_)
             ·
              skip
              refine box_step ?hg (N := 6) ?hd (cs := #[.bool false, .int .u64 0, .string (⟨#[]⟩ : ByteArray)]) (t := 50) ?hr ?_; (case hd => rfl); (case hg => rfl); (case hr => first | (go_simp; done) | (go_simp; rfl))
              intro gb186 hg w27 hbox hb
              obtain ⟨HB, BK186, GW186, GE186⟩ := And.intro (Aside0.mk (below_step (by repeat (first | (with_reducible first | exact HB.out | apply below_alloc | apply pw_below_drewN | apply below_drew1) | exact HB.out)) hb)) (And.intro (Aside0.mk (hbox)) (And.intro (Aside0.mk ((by rw [hg]; exact (below_size (by repeat (first | (with_reducible first | exact HB.out | apply below_alloc | apply pw_below_drewN | apply below_drew1) | exact HB.out))) : w.heap.size ≤ gb186))) (Aside0.mk ((by rw [hg]; exact (below_size (by repeat (first | (with_reducible first | exact HB.out | apply below_alloc | apply pw_below_drewN | apply below_drew1) | exact HB.out))) : w.heap.size ≤ gb186)))))
              clear hb hbox hg
              refine hK.out _ _ ⟨(by first | exact cl_ HB.out hw184_0 | (rw [Nbq24.out]; exact cl_ HB.out hw184_0)), (cl_ HB.out hw184_1), (cl_ HB.out hw184_2), (by first | exact cl_ HB.out hw185_0 | (rw [Nbq24.out]; exact cl_ HB.out hw185_0)), (cl_ HB.out hw185_1), (cl_ HB.out hw185_2)⟩ (fun hHeld => ?_)
              clear hK K
              refine norm_ (a' := ?_) ?_ ?_
              rotate_left
              ·
               show Act.put _ (some 6) _ = _
               simp only [Act.put, sa_, s0_, s1_, i64_w, i32_w]
               rfl
              refine one_ (i := 9) (N := some 7) (b_ 12 1023) rfl rfl (one_of HT_.out (by kernel_rfl)) (by decide) (fun K hK => ?_)
              refine box_step ?hg (N := 7) ?hd (cs := #[.bool false, .int .u64 0, .string (⟨#[]⟩ : ByteArray)]) (t := 50) ?hr ?_; (case hd => rfl); (case hg => rfl); (case hr => first | (go_simp; done) | (go_simp; rfl))
              intro gb187 hg w28 hbox hb
              obtain ⟨BK186, HB, BK187, GW187, GE187, NB186_187, NB187_186⟩ := And.intro (Aside0.mk (blk_below (g := gb186) (o := .cells #[.bool false, .int .u64 0, .string (⟨#[]⟩ : ByteArray)] 50 (0, 0)) (by (with_reducible repeat (first | refine blk_drewN ?_ _ | refine blk_drew ?_ | refine blk_alloc ?_ _)); exact BK186.out) hb)) (And.intro (Aside0.mk (below_step (by repeat (first | (with_reducible first | exact HB.out | apply below_alloc | apply pw_below_drewN | apply below_drew1 | refine below_set ?_ GE186.out) | exact HB.out)) hb)) (And.intro (Aside0.mk (hbox)) (And.intro (Aside0.mk ((by rw [hg]; exact (below_size (by repeat (first | (with_reducible first | exact HB.out | apply below_alloc | apply pw_below_drewN | apply below_drew1 | refine below_set ?_ GE186.out) | exact HB.out))) : w.heap.size ≤ gb187))) (And.intro (Aside0.mk ((by rw [hg]; exact (below_size (by repeat (first | (with_reducible first | exact HB.out | apply below_alloc | apply pw_below_drewN | apply below_drew1 | refine below_set ?_ GE186.out) | exact HB.out))) : w.heap.size ≤ gb187))) (And.intro (Aside0.mk ((by rw [hg]; exact Nat.ne_of_lt (blk_lt (g := gb186) (o := .cells #[.bool false, .int .u64 0, .string (⟨#[]⟩ : ByteArray)] 50 (0, 0)) (by (with_reducible repeat (first | refine blk_drewN ?_ _ | refine blk_drew ?_ | refine blk_alloc ?_ _)); exact BK186.out)) : gb186 ≠ gb187))) (Aside0.mk ((by rw [hg]; exact Nat.ne_of_gt (blk_lt (g := gb186) (o := .cells #[.bool false, .int .u64 0, .string (⟨#[]⟩ : ByteArray)] 50 (0, 0)) (by (with_reducible repeat (first | refine blk_drewN ?_ _ | refine blk_drew ?_ | refine blk_alloc ?_ _)); exact BK186.out)) : gb187 ≠ gb186))))))))
              clear hb hbox hg
              refine hK.out _ _ ⟨(by first | exact cl_ HB.out hw184_0 | (rw [Nbq24.out]; exact cl_ HB.out hw184_0)), (cl_ HB.out hw184_1), (cl_ HB.out hw184_2), (by first | exact cl_ HB.out hw185_0 | (rw [Nbq24.out]; exact cl_ HB.out hw185_0)), (cl_ HB.out hw185_1), (cl_ HB.out hw185_2)⟩ (fun hHeld => ?_)
              clear hK K
              refine norm_ (a' := ?_) ?_ ?_
              rotate_left
              ·
               show Act.put _ (some 7) _ = _
               simp only [Act.put, sa_, s0_, s1_, i64_w, i32_w]
               rfl
              exact norm_ (by simp only [putAll, Act.put, sa_, s0_, s1_]) (hCont (gb186, gb187) _ ⟨hHeld, (by (with_reducible repeat (first | refine blk_drewN ?_ _ | refine blk_drew ?_ | refine blk_alloc ?_ _)); exact BK186.out), (by (with_reducible repeat (first | refine blk_drewN ?_ _ | refine blk_drew ?_ | refine blk_alloc ?_ _)); exact BK187.out), GW186.out, GE186.out, NB187_186.out, NB186_187.out, GW187.out, GE187.out, (by repeat (first | (with_reducible first | exact HB.out | apply below_alloc | apply pw_below_drewN | apply below_drew1 | refine below_set ?_ GE186.out | refine below_set ?_ GE187.out) | exact HB.out))⟩)
             ·
              skip
              refine box_step ?hg (N := 7) ?hd (cs := #[.bool false, .int .u64 0, .string (⟨#[]⟩ : ByteArray)]) (t := 50) ?hr ?_; (case hd => rfl); (case hg => rfl); (case hr => first | (go_simp; done) | (go_simp; rfl))
              intro gb187 hg w27 hbox hb
              obtain ⟨HB, BK187, GW187, GE187⟩ := And.intro (Aside0.mk (below_step (by repeat (first | (with_reducible first | exact HB.out | apply below_alloc | apply pw_below_drewN | apply below_drew1) | exact HB.out)) hb)) (And.intro (Aside0.mk (hbox)) (And.intro (Aside0.mk ((by rw [hg]; exact (below_size (by repeat (first | (with_reducible first | exact HB.out | apply below_alloc | apply pw_below_drewN | apply below_drew1) | exact HB.out))) : w.heap.size ≤ gb187))) (Aside0.mk ((by rw [hg]; exact (below_size (by repeat (first | (with_reducible first | exact HB.out | apply below_alloc | apply pw_below_drewN | apply below_drew1) | exact HB.out))) : w.heap.size ≤ gb187)))))
              clear hb hbox hg
              refine hK.out _ _ ⟨(by first | exact cl_ HB.out hw184_0 | (rw [Nbq24.out]; exact cl_ HB.out hw184_0)), (cl_ HB.out hw184_1), (cl_ HB.out hw184_2), (by first | exact cl_ HB.out hw185_0 | (rw [Nbq24.out]; exact cl_ HB.out hw185_0)), (cl_ HB.out hw185_1), (cl_ HB.out hw185_2)⟩ (fun hHeld => ?_)
              clear hK K
              refine norm_ (a' := ?_) ?_ ?_
              rotate_left
              ·
               show Act.put _ (some 7) _ = _
               simp only [Act.put, sa_, s0_, s1_, i64_w, i32_w]
               rfl
              refine one_ (i := 8) (N := some 6) (b_ 12 1023) rfl rfl (one_of HT_.out (by kernel_rfl)) (by decide) (fun K hK => ?_)
              refine box_step ?hg (N := 6) ?hd (cs := #[.bool false, .int .u64 0, .string (⟨#[]⟩ : ByteArray)]) (t := 50) ?hr ?_; (case hd => rfl); (case hg => rfl); (case hr => first | (go_simp; done) | (go_simp; rfl))
              intro gb186 hg w28 hbox hb
              obtain ⟨BK187, HB, BK186, GW186, GE186, NB187_186, NB186_187⟩ := And.intro (Aside0.mk (blk_below (g := gb187) (o := .cells #[.bool false, .int .u64 0, .string (⟨#[]⟩ : ByteArray)] 50 (0, 0)) (by (with_reducible repeat (first | refine blk_drewN ?_ _ | refine blk_drew ?_ | refine blk_alloc ?_ _)); exact BK187.out) hb)) (And.intro (Aside0.mk (below_step (by repeat (first | (with_reducible first | exact HB.out | apply below_alloc | apply pw_below_drewN | apply below_drew1 | refine below_set ?_ GE187.out) | exact HB.out)) hb)) (And.intro (Aside0.mk (hbox)) (And.intro (Aside0.mk ((by rw [hg]; exact (below_size (by repeat (first | (with_reducible first | exact HB.out | apply below_alloc | apply pw_below_drewN | apply below_drew1 | refine below_set ?_ GE187.out) | exact HB.out))) : w.heap.size ≤ gb186))) (And.intro (Aside0.mk ((by rw [hg]; exact (below_size (by repeat (first | (with_reducible first | exact HB.out | apply below_alloc | apply pw_below_drewN | apply below_drew1 | refine below_set ?_ GE187.out) | exact HB.out))) : w.heap.size ≤ gb186))) (And.intro (Aside0.mk ((by rw [hg]; exact Nat.ne_of_lt (blk_lt (g := gb187) (o := .cells #[.bool false, .int .u64 0, .string (⟨#[]⟩ : ByteArray)] 50 (0, 0)) (by (with_reducible repeat (first | refine blk_drewN ?_ _ | refine blk_drew ?_ | refine blk_alloc ?_ _)); exact BK187.out)) : gb187 ≠ gb186))) (Aside0.mk ((by rw [hg]; exact Nat.ne_of_gt (blk_lt (g := gb187) (o := .cells #[.bool false, .int .u64 0, .string (⟨#[]⟩ : ByteArray)] 50 (0, 0)) (by (with_reducible repeat (first | refine blk_drewN ?_ _ | refine blk_drew ?_ | refine blk_alloc ?_ _)); exact BK187.out)) : gb186 ≠ gb187))))))))
              clear hb hbox hg
              refine hK.out _ _ ⟨(by first | exact cl_ HB.out hw184_0 | (rw [Nbq24.out]; exact cl_ HB.out hw184_0)), (cl_ HB.out hw184_1), (cl_ HB.out hw184_2), (by first | exact cl_ HB.out hw185_0 | (rw [Nbq24.out]; exact cl_ HB.out hw185_0)), (cl_ HB.out hw185_1), (cl_ HB.out hw185_2)⟩ (fun hHeld => ?_)
              clear hK K
              refine norm_ (a' := ?_) ?_ ?_
              rotate_left
              ·
               show Act.put _ (some 6) _ = _
               simp only [Act.put, sa_, s0_, s1_, i64_w, i32_w]
               rfl
              exact norm_ (by simp only [putAll, Act.put, sa_, s0_, s1_]) (hCont (gb186, gb187) _ ⟨hHeld, (by (with_reducible repeat (first | refine blk_drewN ?_ _ | refine blk_drew ?_ | refine blk_alloc ?_ _)); exact BK186.out), (by (with_reducible repeat (first | refine blk_drewN ?_ _ | refine blk_drew ?_ | refine blk_alloc ?_ _)); exact BK187.out), GW186.out, GE186.out, NB187_186.out, NB186_187.out, GW187.out, GE187.out, (by repeat (first | (with_reducible first | exact HB.out | apply below_alloc | apply pw_below_drewN | apply below_drew1 | refine below_set ?_ GE187.out | refine below_set ?_ GE186.out) | exact HB.out))⟩)
            rintro ⟨gb186, gb187⟩ w29 ⟨hS_, h0_, h1_, h2_, h3_, h4_, h5_, h6_, h7_, h8_⟩
            have n0_ : Aside0 (w29.heap[gb186]? = some (.cells #[.bool false, .int .u64 0, .string (⟨#[]⟩ : ByteArray)] 50 (0, 0))) := ⟨h0_⟩
            have n1_ : Aside0 (w29.heap[gb187]? = some (.cells #[.bool false, .int .u64 0, .string (⟨#[]⟩ : ByteArray)] 50 (0, 0))) := ⟨h1_⟩
            have n2_ : Aside0 (w.heap.size ≤ gb186) := ⟨h2_⟩
            have n3_ : Aside0 (w.heap.size ≤ gb186) := ⟨h3_⟩
            have n4_ : Aside0 (gb187 ≠ gb186) := ⟨h4_⟩
            have n5_ : Aside0 (gb186 ≠ gb187) := ⟨h5_⟩
            have n6_ : Aside0 (w.heap.size ≤ gb187) := ⟨h6_⟩
            have n7_ : Aside0 (w.heap.size ≤ gb187) := ⟨h7_⟩
            have n8_ : Aside0 (Below w.heap.size w w29) := ⟨h8_⟩
            clear HB
            clear h0_ h1_ h2_ h3_ h4_ h5_ h6_ h7_ h8_
            have BK186 := n0_
            have BK187 := n1_
            have GW186 := n2_
            have GE186 := n3_
            have NB187_186 := n4_
            have NB186_187 := n5_
            have GW187 := n6_
            have GE187 := n7_
            have HB := n8_
            clear n0_ n1_ n2_ n3_ n4_ n5_ n6_ n7_ n8_
            have hHeld : w29.cell? (ad184.add ((x5_1).toNat * 3)) = some (.bool ((rd_T50 l0 x5_1).f0)) ∧ w29.cell? ⟨(ad184.add ((x5_1).toNat * 3)).block, (ad184.add ((x5_1).toNat * 3)).off + 1, none⟩ = some (.int .u64 ((rd_T50 l0 x5_1).f1)) ∧ w29.cell? ⟨(ad184.add ((x5_1).toNat * 3)).block, (ad184.add ((x5_1).toNat * 3)).off + 2, none⟩ = some (.string ((rd_T50 l0 x5_1).f2)) ∧ w29.cell? (ad185.add ((x5_1).toNat * 3)) = some (.bool true) ∧ w29.cell? ⟨(ad185.add ((x5_1).toNat * 3)).block, (ad185.add ((x5_1).toNat * 3)).off + 1, none⟩ = some (.int .u64 ((rd_T50 l1 x5_1).f1)) ∧ w29.cell? ⟨(ad185.add ((x5_1).toNat * 3)).block, (ad185.add ((x5_1).toNat * 3)).off + 2, none⟩ = some (.string ((rd_T50 l1 x5_1).f2)) := hS_
            refine norm_ (a' := ?_) ?_ ?_
            rotate_left
            ·
             simp only [putAll, Act.put, sa_, s0_, s1_]
             rfl
            refine one_ (i := 10) (N := none) (b_ 12 2047) rfl rfl (one_of HT_.out (by kernel_rfl)) (by decide) (fun K hK => ?_)
            have hs30 : w29.cell? ⟨gb186, 0, none⟩ = some (.bool false) := (blk_cell BK186.out 0).trans rfl
            have hfs30 := blk_frozen BK186.out 0
            have hns30_1 := NB187_186.out
            have hms30_1 := NB186_187.out
            have hs31 : w29.cell? ⟨gb186, 1, none⟩ = some (.int .u64 0) := (blk_cell BK186.out 1).trans rfl
            have hfs31 := blk_frozen BK186.out 1
            have hns31_1 := NB187_186.out
            have hms31_1 := NB186_187.out
            have hs32 : w29.cell? ⟨gb186, 2, none⟩ = some (.string (⟨#[]⟩ : ByteArray)) := (blk_cell BK186.out 2).trans rfl
            have hfs32 := blk_frozen BK186.out 2
            have hns32_1 := NB187_186.out
            have hms32_1 := NB186_187.out
            refine skip_ (w1 := ?_) (by rfl) rfl ?_ ?_
            rotate_left
            ·
             go_simp
             rfl
            refine hK.out _ _ ⟨((cell_far (p := ⟨gb186, _, none⟩) (ne_ hw184_0 GW186.out) _).trans (((cell_far (p := ⟨gb186, _, none⟩) (ne_ hw184_0 GW186.out) _).trans (((cell_far (p := ⟨gb186, _, none⟩) (ne_ hw184_0 GW186.out) _).trans (hHeld.1)))))), ((cell_far (p := ⟨gb186, _, none⟩) (ne_ hw184_1 GW186.out) _).trans (((cell_far (p := ⟨gb186, _, none⟩) (ne_ hw184_1 GW186.out) _).trans (((cell_far (p := ⟨gb186, _, none⟩) (ne_ hw184_1 GW186.out) _).trans (hHeld.2.1)))))), ((cell_far (p := ⟨gb186, _, none⟩) (ne_ hw184_2 GW186.out) _).trans (((cell_far (p := ⟨gb186, _, none⟩) (ne_ hw184_2 GW186.out) _).trans (((cell_far (p := ⟨gb186, _, none⟩) (ne_ hw184_2 GW186.out) _).trans (hHeld.2.2.1)))))), ((cell_far (p := ⟨gb186, _, none⟩) (ne_ hw185_0 GW186.out) _).trans (((cell_far (p := ⟨gb186, _, none⟩) (ne_ hw185_0 GW186.out) _).trans (((cell_far (p := ⟨gb186, _, none⟩) (ne_ hw185_0 GW186.out) _).trans (hHeld.2.2.2.1)))))), ((cell_far (p := ⟨gb186, _, none⟩) (ne_ hw185_1 GW186.out) _).trans (((cell_far (p := ⟨gb186, _, none⟩) (ne_ hw185_1 GW186.out) _).trans (((cell_far (p := ⟨gb186, _, none⟩) (ne_ hw185_1 GW186.out) _).trans (hHeld.2.2.2.2.1)))))), ((cell_far (p := ⟨gb186, _, none⟩) (ne_ hw185_2 GW186.out) _).trans (((cell_far (p := ⟨gb186, _, none⟩) (ne_ hw185_2 GW186.out) _).trans (((cell_far (p := ⟨gb186, _, none⟩) (ne_ hw185_2 GW186.out) _).trans (hHeld.2.2.2.2.2))))))⟩ (fun hHeld => ?_)
            clear hK K
            refine one_ (i := 11) (N := none) (b_ 12 4095) rfl rfl (one_of HT_.out (by kernel_rfl)) (by decide) (fun K hK => ?_)
            have hs33 : w29.cell? ⟨gb187, 0, none⟩ = some (.bool false) := (blk_cell BK187.out 0).trans rfl
            have hfs33 := blk_frozen BK187.out 0
            have hns33_0 := NB186_187.out
            have hms33_0 := NB187_186.out
            have hs34 : w29.cell? ⟨gb187, 1, none⟩ = some (.int .u64 0) := (blk_cell BK187.out 1).trans rfl
            have hfs34 := blk_frozen BK187.out 1
            have hns34_0 := NB186_187.out
            have hms34_0 := NB187_186.out
            have hs35 : w29.cell? ⟨gb187, 2, none⟩ = some (.string (⟨#[]⟩ : ByteArray)) := (blk_cell BK187.out 2).trans rfl
            have hfs35 := blk_frozen BK187.out 2
            have hns35_0 := NB186_187.out
            have hms35_0 := NB187_186.out
            refine skip_ (w1 := ?_) (by rfl) rfl ?_ ?_
            rotate_left
            ·
             go_simp
             rfl
            refine hK.out _ _ ⟨((cell_far (p := ⟨gb187, _, none⟩) (ne_ hw184_0 GW187.out) _).trans (((cell_far (p := ⟨gb187, _, none⟩) (ne_ hw184_0 GW187.out) _).trans (((cell_far (p := ⟨gb187, _, none⟩) (ne_ hw184_0 GW187.out) _).trans (hHeld.1)))))), ((cell_far (p := ⟨gb187, _, none⟩) (ne_ hw184_1 GW187.out) _).trans (((cell_far (p := ⟨gb187, _, none⟩) (ne_ hw184_1 GW187.out) _).trans (((cell_far (p := ⟨gb187, _, none⟩) (ne_ hw184_1 GW187.out) _).trans (hHeld.2.1)))))), ((cell_far (p := ⟨gb187, _, none⟩) (ne_ hw184_2 GW187.out) _).trans (((cell_far (p := ⟨gb187, _, none⟩) (ne_ hw184_2 GW187.out) _).trans (((cell_far (p := ⟨gb187, _, none⟩) (ne_ hw184_2 GW187.out) _).trans (hHeld.2.2.1)))))), ((cell_far (p := ⟨gb187, _, none⟩) (ne_ hw185_0 GW187.out) _).trans (((cell_far (p := ⟨gb187, _, none⟩) (ne_ hw185_0 GW187.out) _).trans (((cell_far (p := ⟨gb187, _, none⟩) (ne_ hw185_0 GW187.out) _).trans (hHeld.2.2.2.1)))))), ((cell_far (p := ⟨gb187, _, none⟩) (ne_ hw185_1 GW187.out) _).trans (((cell_far (p := ⟨gb187, _, none⟩) (ne_ hw185_1 GW187.out) _).trans (((cell_far (p := ⟨gb187, _, none⟩) (ne_ hw185_1 GW187.out) _).trans (hHeld.2.2.2.2.1)))))), ((cell_far (p := ⟨gb187, _, none⟩) (ne_ hw185_2 GW187.out) _).trans (((cell_far (p := ⟨gb187, _, none⟩) (ne_ hw185_2 GW187.out) _).trans (((cell_far (p := ⟨gb187, _, none⟩) (ne_ hw185_2 GW187.out) _).trans (hHeld.2.2.2.2.2))))))⟩ (fun hHeld => ?_)
            clear hK K
            refine done_ (done_of HT_.out (by kernel_rfl)) ?_
            have hnb36 := NB186_187.out
            have hnc36 := NB187_186.out
            have hcz37_0 : w29.cell? ⟨gb186, 0, none⟩ = some (.bool false) := (blk_cell BK186.out 0).trans rfl
            have hcz37_1 : w29.cell? ⟨gb186, 1, none⟩ = some (.int .u64 0) := (blk_cell BK186.out 1).trans rfl
            have hcz37_2 : w29.cell? ⟨gb186, 2, none⟩ = some (.string (⟨#[]⟩ : ByteArray)) := (blk_cell BK186.out 2).trans rfl
            have hfz37_0 := blk_frozen BK186.out 0
            have hfz37_1 := blk_frozen BK186.out 1
            have hfz37_2 := blk_frozen BK186.out 2
            have hcz38_0 : w29.cell? ⟨gb187, 0, none⟩ = some (.bool false) := (blk_cell BK187.out 0).trans rfl
            have hcz38_1 : w29.cell? ⟨gb187, 1, none⟩ = some (.int .u64 0) := (blk_cell BK187.out 1).trans rfl
            have hcz38_2 : w29.cell? ⟨gb187, 2, none⟩ = some (.string (⟨#[]⟩ : ByteArray)) := (blk_cell BK187.out 2).trans rfl
            have hfz38_0 := blk_frozen BK187.out 0
            have hfz38_1 := blk_frozen BK187.out 1
            have hfz38_2 := blk_frozen BK187.out 2
            first | (have cy1 : ((rd_T50 l0 x5_1).f0) = false := by have h_ := c23b0; rw [← Nbq24.out] at h_; simpa using h_) | (have cy1 : ((rd_T50 l0 x5_1).f0) = true := by have h_ := c23b0; rw [← Nbq24.out] at h_; simpa using h_) | (have cy3 : ((((rd_T50 l0 x5_1).f1) == ((rd_T50 l1 x5_1).f1)) && ((((rd_T50 l0 x5_1).f2).toList) == (((rd_T50 l1 x5_1).f2).toList))) = false := by have h_ := c9b0; rw [c23b2] at h_; simpa using h_) | skip
            try go_wp2
            go_ret
            exact ⟨by first | rfl | (simp [errW_none, errW_some] <;> rfl) | (simp [*, errW_none, errW_some] <;> rfl) | exact ret_ie _ | (simp [*, errW_none, errW_some, bne]; done), by repeat (first | (with_reducible first | exact HB.out | apply below_alloc | apply pw_below_drewN | apply below_drew1 | refine below_set ?_ GE186.out | refine below_set ?_ GE187.out) | exact HB.out)⟩
           ·
            replace c25 := Bool.eq_false_iff.mpr c25
            subst c25
            have H1 : (some 1) = some r := by rw [if_neg (show ¬ (false = true) by decide)] at H; exact H
            clear H
            have H := H1
            clear H1
            obtain rfl := Option.some.inj H
            try go_wp2
            have n0_ := Aside0.mk (below_drew1 HB.out)
            clear HB
            have HB := n0_
            clear n0_
            have p184 : 0 ≤ (x5_1 : Int) := of_decide_eq_true (by first | (with_reducible assumption) | assumption)
            have q184 : x5_1 < (l0.length : Int) := of_decide_eq_true (by first | (with_reducible assumption) | assumption)
            obtain ⟨ad184, e184, hx184_0, hx184_1, hx184_2⟩ := at_T50 HR0.out x5_1 p184 q184
            have hw184_2 := hx184_2
            have hw184_1 := hx184_1
            have hw184_0 := hx184_0
            (try rw [← Nbq24.out] at hx184_0)
            cases e184
            replace hx184_0 := cl_ HB.out hx184_0
            replace hx184_1 := cl_ HB.out hx184_1
            replace hx184_2 := cl_ HB.out hx184_2
            replace p184 := eq_true p184
            replace q184 := eq_true q184
            have p185 : 0 ≤ (x5_1 : Int) := of_decide_eq_true (by first | (with_reducible assumption) | assumption)
            have q185 : x5_1 < (l1.length : Int) := of_decide_eq_true (by first | (with_reducible assumption) | assumption)
            obtain ⟨ad185, e185, hx185_0, hx185_1, hx185_2⟩ := at_T50 HR1.out x5_1 p185 q185
            have hw185_2 := hx185_2
            have hw185_1 := hx185_1
            have hw185_0 := hx185_0
            (try rw [← Nbq24.out] at hx185_0)
            cases e185
            replace hx185_0 := cl_ HB.out hx185_0
            replace hx185_1 := cl_ HB.out hx185_1
            replace hx185_2 := cl_ HB.out hx185_2
            replace p185 := eq_true p185
            replace q185 := eq_true q185
            refine start_ (n := 12) (S := fun w' => w'.cell? (ad184.add ((x5_1).toNat * 3)) = some (.bool ((rd_T50 l0 x5_1).f0)) ∧ w'.cell? ⟨(ad184.add ((x5_1).toNat * 3)).block, (ad184.add ((x5_1).toNat * 3)).off + 1, none⟩ = some (.int .u64 ((rd_T50 l0 x5_1).f1)) ∧ w'.cell? ⟨(ad184.add ((x5_1).toNat * 3)).block, (ad184.add ((x5_1).toNat * 3)).off + 2, none⟩ = some (.string ((rd_T50 l0 x5_1).f2)) ∧ w'.cell? (ad185.add ((x5_1).toNat * 3)) = some (.bool false) ∧ w'.cell? ⟨(ad185.add ((x5_1).toNat * 3)).block, (ad185.add ((x5_1).toNat * 3)).off + 1, none⟩ = some (.int .u64 ((rd_T50 l1 x5_1).f1)) ∧ w'.cell? ⟨(ad185.add ((x5_1).toNat * 3)).block, (ad185.add ((x5_1).toNat * 3)).off + 2, none⟩ = some (.string ((rd_T50 l1 x5_1).f2))) (ds := []) (b_ 12 0) (by kernel_rfl) rfl rfl ⟨(by first | exact cl_ HB.out hw184_0 | (rw [Nbq24.out]; exact cl_ HB.out hw184_0)), (cl_ HB.out hw184_1), (cl_ HB.out hw184_2), (by first | exact cl_ HB.out hw185_0 | (rw [Nbq24.out]; exact cl_ HB.out hw185_0)), (cl_ HB.out hw185_1), (cl_ HB.out hw185_2)⟩ (fun hHeld => ?_); refine with_tabW millhandref01_Order.tab4 millhandref01_Order.bits4 (fun HT_ HW_ => ?_)
            generalize wc.drew = w39 at HB hx184_0 hx184_1 hx184_2 hx185_0 hx185_1 hx185_2 hHeld ⊢
            refine pA_ 0 20 ?_ (b_ 12 1) (any_of HT_.out (by kernel_rfl)) rfl rfl (fun _ _ _ h => h) (by rfl) ?_ ?_ ?_ ?_
            rotate_left
            ·
             intro w'
             go_simp
             with_reducible rfl
            rotate_left
            ·
             simp only [Act.put, sa_, s0_, s1_, i64_w, i32_w]
             rfl
            refine pA_ 1 21 ?_ (b_ 12 3) (any_of HT_.out (by kernel_rfl)) rfl rfl (fun _ _ _ h => h) (by rfl) ?_ ?_ ?_ ?_
            rotate_left
            ·
             intro w'
             go_simp
             with_reducible rfl
            rotate_left
            ·
             simp only [Act.put, sa_, s0_, s1_, i64_w, i32_w]
             rfl
            refine pA_ 2 22 ?_ (b_ 12 7) (any_of HT_.out (by kernel_rfl)) rfl rfl (fun _ _ _ h => h) (by rfl) ?_ ?_ ?_ ?_
            rotate_left
            ·
             intro w'
             go_simp
             with_reducible rfl
            rotate_left
            ·
             simp only [Act.put, sa_, s0_, s1_, i64_w, i32_w]
             rfl
            refine pA_ 4 24 ?_ (b_ 12 23) (any_of HT_.out (by kernel_rfl)) rfl rfl (fun _ _ _ h => h) (by rfl) ?_ ?_ ?_ ?_
            rotate_left
            ·
             intro w'
             go_simp
             with_reducible rfl
            rotate_left
            ·
             simp only [Act.put, sa_, s0_, s1_, i64_w, i32_w]
             rfl
            refine pA_ 5 25 ?_ (b_ 12 55) (any_of HT_.out (by kernel_rfl)) rfl rfl (fun _ _ _ h => h) (by rfl) ?_ ?_ ?_ ?_
            rotate_left
            ·
             intro w'
             go_simp
             with_reducible rfl
            rotate_left
            ·
             simp only [Act.put, sa_, s0_, s1_, i64_w, i32_w]
             rfl
            refine pA_ 6 26 ?_ (b_ 12 119) (any_of HT_.out (by kernel_rfl)) rfl rfl (fun _ _ _ h => h) (by rfl) ?_ ?_ ?_ ?_
            rotate_left
            ·
             intro w'
             go_simp
             with_reducible rfl
            rotate_left
            ·
             simp only [Act.put, sa_, s0_, s1_, i64_w, i32_w]
             rfl
            refine tA_ 3 23 ?_ (b_ 12 127) (take_ofW HT_.out HW_.out (by kernel_rfl)) rfl rfl (fun _ _ _ h => h) (by rfl) ?_ hHeld ?_ ?_ ?_
            rotate_left
            ·
             rintro w' ⟨s0, s1, s2, s3, s4, s5⟩
             go_simp
             with_reducible rfl
            rotate_left
            ·
             simp only [Act.put, sa_, s0_, s1_, i64_w, i32_w]
             rfl
            refine tA_ 7 27 ?_ (b_ 12 255) (take_ofW HT_.out HW_.out (by kernel_rfl)) rfl rfl (fun _ _ _ h => h) (by rfl) ?_ hHeld ?_ ?_ ?_
            rotate_left
            ·
             rintro w' ⟨s0, s1, s2, s3, s4, s5⟩
             go_simp
             with_reducible rfl
            rotate_left
            ·
             simp only [Act.put, sa_, s0_, s1_, i64_w, i32_w]
             rfl
            refine join_ (σ := Nat × Nat) 2 (b_ 12 1023) (fun s_ => [(6, .pointer (some ⟨s_.1, 0, none⟩)), (7, .pointer (some ⟨s_.2, 0, none⟩))]) (fun s_ w' => (w'.cell? (ad184.add ((x5_1).toNat * 3)) = some (.bool ((rd_T50 l0 x5_1).f0)) ∧ w'.cell? ⟨(ad184.add ((x5_1).toNat * 3)).block, (ad184.add ((x5_1).toNat * 3)).off + 1, none⟩ = some (.int .u64 ((rd_T50 l0 x5_1).f1)) ∧ w'.cell? ⟨(ad184.add ((x5_1).toNat * 3)).block, (ad184.add ((x5_1).toNat * 3)).off + 2, none⟩ = some (.string ((rd_T50 l0 x5_1).f2)) ∧ w'.cell? (ad185.add ((x5_1).toNat * 3)) = some (.bool false) ∧ w'.cell? ⟨(ad185.add ((x5_1).toNat * 3)).block, (ad185.add ((x5_1).toNat * 3)).off + 1, none⟩ = some (.int .u64 ((rd_T50 l1 x5_1).f1)) ∧ w'.cell? ⟨(ad185.add ((x5_1).toNat * 3)).block, (ad185.add ((x5_1).toNat * 3)).off + 2, none⟩ = some (.string ((rd_T50 l1 x5_1).f2))) ∧ (w'.heap[s_.1]? = some (.cells #[.bool false, .int .u64 0, .string (⟨#[]⟩ : ByteArray)] 50 (0, 0))) ∧ (w'.heap[s_.2]? = some (.cells #[.bool false, .int .u64 0, .string (⟨#[]⟩ : ByteArray)] 50 (0, 0))) ∧ (w.heap.size ≤ s_.1) ∧ (w.heap.size ≤ s_.1) ∧ (s_.2 ≠ s_.1) ∧ (s_.1 ≠ s_.2) ∧ (w.heap.size ≤ s_.2) ∧ (w.heap.size ≤ s_.2) ∧ (Below w.heap.size w w')) ?_ ?_
            rotate_left
            ·
             intro hCont
             refine two_ (i := 8) (j := 9) (Ni := some 6) (Nj := some 7) (b_ 12 511) (b_ 12 767) rfl rfl rfl rfl (two_of HT_.out (by kernel_rfl)) (by decide) (by decide) (fun K hK => ?_) (fun K hK => ?_)
             ·
              skip
              refine box_step ?hg (N := 6) ?hd (cs := #[.bool false, .int .u64 0, .string (⟨#[]⟩ : ByteArray)]) (t := 50) ?hr ?_; (case hd => rfl); (case hg => rfl); (case hr => first | (go_simp; done) | (go_simp; rfl))
              intro gb186 hg w40 hbox hb
              obtain ⟨HB, BK186, GW186, GE186⟩ := And.intro (Aside0.mk (below_step (by repeat (first | (with_reducible first | exact HB.out | apply below_alloc | apply pw_below_drewN | apply below_drew1) | exact HB.out)) hb)) (And.intro (Aside0.mk (hbox)) (And.intro (Aside0.mk ((by rw [hg]; exact (below_size (by repeat (first | (with_reducible first | exact HB.out | apply below_alloc | apply pw_below_drewN | apply below_drew1) | exact HB.out))) : w.heap.size ≤ gb186))) (Aside0.mk ((by rw [hg]; exact (below_size (by repeat (first | (with_reducible first | exact HB.out | apply below_alloc | apply pw_below_drewN | apply below_drew1) | exact HB.out))) : w.heap.size ≤ gb186)))))
              clear hb hbox hg
              refine hK.out _ _ ⟨(by first | exact cl_ HB.out hw184_0 | (rw [Nbq24.out]; exact cl_ HB.out hw184_0)), (cl_ HB.out hw184_1), (cl_ HB.out hw184_2), (by first | exact cl_ HB.out hw185_0 | (rw [Nbq24.out]; exact cl_ HB.out hw185_0)), (cl_ HB.out hw185_1), (cl_ HB.out hw185_2)⟩ (fun hHeld => ?_)
              clear hK K
              refine norm_ (a' := ?_) ?_ ?_
              rotate_left
              ·
               show Act.put _ (some 6) _ = _
               simp only [Act.put, sa_, s0_, s1_, i64_w, i32_w]
               rfl
              refine one_ (i := 9) (N := some 7) (b_ 12 1023) rfl rfl (one_of HT_.out (by kernel_rfl)) (by decide) (fun K hK => ?_)
              refine box_step ?hg (N := 7) ?hd (cs := #[.bool false, .int .u64 0, .string (⟨#[]⟩ : ByteArray)]) (t := 50) ?hr ?_; (case hd => rfl); (case hg => rfl); (case hr => first | (go_simp; done) | (go_simp; rfl))
              intro gb187 hg w41 hbox hb
              obtain ⟨BK186, HB, BK187, GW187, GE187, NB186_187, NB187_186⟩ := And.intro (Aside0.mk (blk_below (g := gb186) (o := .cells #[.bool false, .int .u64 0, .string (⟨#[]⟩ : ByteArray)] 50 (0, 0)) (by (with_reducible repeat (first | refine blk_drewN ?_ _ | refine blk_drew ?_ | refine blk_alloc ?_ _)); exact BK186.out) hb)) (And.intro (Aside0.mk (below_step (by repeat (first | (with_reducible first | exact HB.out | apply below_alloc | apply pw_below_drewN | apply below_drew1 | refine below_set ?_ GE186.out) | exact HB.out)) hb)) (And.intro (Aside0.mk (hbox)) (And.intro (Aside0.mk ((by rw [hg]; exact (below_size (by repeat (first | (with_reducible first | exact HB.out | apply below_alloc | apply pw_below_drewN | apply below_drew1 | refine below_set ?_ GE186.out) | exact HB.out))) : w.heap.size ≤ gb187))) (And.intro (Aside0.mk ((by rw [hg]; exact (below_size (by repeat (first | (with_reducible first | exact HB.out | apply below_alloc | apply pw_below_drewN | apply below_drew1 | refine below_set ?_ GE186.out) | exact HB.out))) : w.heap.size ≤ gb187))) (And.intro (Aside0.mk ((by rw [hg]; exact Nat.ne_of_lt (blk_lt (g := gb186) (o := .cells #[.bool false, .int .u64 0, .string (⟨#[]⟩ : ByteArray)] 50 (0, 0)) (by (with_reducible repeat (first | refine blk_drewN ?_ _ | refine blk_drew ?_ | refine blk_alloc ?_ _)); exact BK186.out)) : gb186 ≠ gb187))) (Aside0.mk ((by rw [hg]; exact Nat.ne_of_gt (blk_lt (g := gb186) (o := .cells #[.bool false, .int .u64 0, .string (⟨#[]⟩ : ByteArray)] 50 (0, 0)) (by (with_reducible repeat (first | refine blk_drewN ?_ _ | refine blk_drew ?_ | refine blk_alloc ?_ _)); exact BK186.out)) : gb187 ≠ gb186))))))))
              clear hb hbox hg
              refine hK.out _ _ ⟨(by first | exact cl_ HB.out hw184_0 | (rw [Nbq24.out]; exact cl_ HB.out hw184_0)), (cl_ HB.out hw184_1), (cl_ HB.out hw184_2), (by first | exact cl_ HB.out hw185_0 | (rw [Nbq24.out]; exact cl_ HB.out hw185_0)), (cl_ HB.out hw185_1), (cl_ HB.out hw185_2)⟩ (fun hHeld => ?_)
              clear hK K
              refine norm_ (a' := ?_) ?_ ?_
              rotate_left
              ·
               show Act.put _ (some 7) _ = _
               simp only [Act.put, sa_, s0_, s1_, i64_w, i32_w]
               rfl
              exact norm_ (by simp only [putAll, Act.put, sa_, s0_, s1_]) (hCont (gb186, gb187) _ ⟨hHeld, (by (with_reducible repeat (first | refine blk_drewN ?_ _ | refine blk_drew ?_ | refine blk_alloc ?_ _)); exact BK186.out), (by (with_reducible repeat (first | refine blk_drewN ?_ _ | refine blk_drew ?_ | refine blk_alloc ?_ _)); exact BK187.out), GW186.out, GE186.out, NB187_186.out, NB186_187.out, GW187.out, GE187.out, (by repeat (first | (with_reducible first | exact HB.out | apply below_alloc | apply pw_below_drewN | apply below_drew1 | refine below_set ?_ GE186.out | refine below_set ?_ GE187.out) | exact HB.out))⟩)
             ·
              skip
              refine box_step ?hg (N := 7) ?hd (cs := #[.bool false, .int .u64 0, .string (⟨#[]⟩ : ByteArray)]) (t := 50) ?hr ?_; (case hd => rfl); (case hg => rfl); (case hr => first | (go_simp; done) | (go_simp; rfl))
              intro gb187 hg w40 hbox hb
              obtain ⟨HB, BK187, GW187, GE187⟩ := And.intro (Aside0.mk (below_step (by repeat (first | (with_reducible first | exact HB.out | apply below_alloc | apply pw_below_drewN | apply below_drew1) | exact HB.out)) hb)) (And.intro (Aside0.mk (hbox)) (And.intro (Aside0.mk ((by rw [hg]; exact (below_size (by repeat (first | (with_reducible first | exact HB.out | apply below_alloc | apply pw_below_drewN | apply below_drew1) | exact HB.out))) : w.heap.size ≤ gb187))) (Aside0.mk ((by rw [hg]; exact (below_size (by repeat (first | (with_reducible first | exact HB.out | apply below_alloc | apply pw_below_drewN | apply below_drew1) | exact HB.out))) : w.heap.size ≤ gb187)))))
              clear hb hbox hg
              refine hK.out _ _ ⟨(by first | exact cl_ HB.out hw184_0 | (rw [Nbq24.out]; exact cl_ HB.out hw184_0)), (cl_ HB.out hw184_1), (cl_ HB.out hw184_2), (by first | exact cl_ HB.out hw185_0 | (rw [Nbq24.out]; exact cl_ HB.out hw185_0)), (cl_ HB.out hw185_1), (cl_ HB.out hw185_2)⟩ (fun hHeld => ?_)
              clear hK K
              refine norm_ (a' := ?_) ?_ ?_
              rotate_left
              ·
               show Act.put _ (some 7) _ = _
               simp only [Act.put, sa_, s0_, s1_, i64_w, i32_w]
               rfl
              refine one_ (i := 8) (N := some 6) (b_ 12 1023) rfl rfl (one_of HT_.out (by kernel_rfl)) (by decide) (fun K hK => ?_)
              refine box_step ?hg (N := 6) ?hd (cs := #[.bool false, .int .u64 0, .string (⟨#[]⟩ : ByteArray)]) (t := 50) ?hr ?_; (case hd => rfl); (case hg => rfl); (case hr => first | (go_simp; done) | (go_simp; rfl))
              intro gb186 hg w41 hbox hb
              obtain ⟨BK187, HB, BK186, GW186, GE186, NB187_186, NB186_187⟩ := And.intro (Aside0.mk (blk_below (g := gb187) (o := .cells #[.bool false, .int .u64 0, .string (⟨#[]⟩ : ByteArray)] 50 (0, 0)) (by (with_reducible repeat (first | refine blk_drewN ?_ _ | refine blk_drew ?_ | refine blk_alloc ?_ _)); exact BK187.out) hb)) (And.intro (Aside0.mk (below_step (by repeat (first | (with_reducible first | exact HB.out | apply below_alloc | apply pw_below_drewN | apply below_drew1 | refine below_set ?_ GE187.out) | exact HB.out)) hb)) (And.intro (Aside0.mk (hbox)) (And.intro (Aside0.mk ((by rw [hg]; exact (below_size (by repeat (first | (with_reducible first | exact HB.out | apply below_alloc | apply pw_below_drewN | apply below_drew1 | refine below_set ?_ GE187.out) | exact HB.out))) : w.heap.size ≤ gb186))) (And.intro (Aside0.mk ((by rw [hg]; exact (below_size (by repeat (first | (with_reducible first | exact HB.out | apply below_alloc | apply pw_below_drewN | apply below_drew1 | refine below_set ?_ GE187.out) | exact HB.out))) : w.heap.size ≤ gb186))) (And.intro (Aside0.mk ((by rw [hg]; exact Nat.ne_of_lt (blk_lt (g := gb187) (o := .cells #[.bool false, .int .u64 0, .string (⟨#[]⟩ : ByteArray)] 50 (0, 0)) (by (with_reducible repeat (first | refine blk_drewN ?_ _ | refine blk_drew ?_ | refine blk_alloc ?_ _)); exact BK187.out)) : gb187 ≠ gb186))) (Aside0.mk ((by rw [hg]; exact Nat.ne_of_gt (blk_lt (g := gb187) (o := .cells #[.bool false, .int .u64 0, .string (⟨#[]⟩ : ByteArray)] 50 (0, 0)) (by (with_reducible repeat (first | refine blk_drewN ?_ _ | refine blk_drew ?_ | refine blk_alloc ?_ _)); exact BK187.out)) : gb186 ≠ gb187))))))))
              clear hb hbox hg
              refine hK.out _ _ ⟨(by first | exact cl_ HB.out hw184_0 | (rw [Nbq24.out]; exact cl_ HB.out hw184_0)), (cl_ HB.out hw184_1), (cl_ HB.out hw184_2), (by first | exact cl_ HB.out hw185_0 | (rw [Nbq24.out]; exact cl_ HB.out hw185_0)), (cl_ HB.out hw185_1), (cl_ HB.out hw185_2)⟩ (fun hHeld => ?_)
              clear hK K
              refine norm_ (a' := ?_) ?_ ?_
              rotate_left
              ·
               show Act.put _ (some 6) _ = _
               simp only [Act.put, sa_, s0_, s1_, i64_w, i32_w]
               rfl
              exact norm_ (by simp only [putAll, Act.put, sa_, s0_, s1_]) (hCont (gb186, gb187) _ ⟨hHeld, (by (with_reducible repeat (first | refine blk_drewN ?_ _ | refine blk_drew ?_ | refine blk_alloc ?_ _)); exact BK186.out), (by (with_reducible repeat (first | refine blk_drewN ?_ _ | refine blk_drew ?_ | refine blk_alloc ?_ _)); exact BK187.out), GW186.out, GE186.out, NB187_186.out, NB186_187.out, GW187.out, GE187.out, (by repeat (first | (with_reducible first | exact HB.out | apply below_alloc | apply pw_below_drewN | apply below_drew1 | refine below_set ?_ GE187.out | refine below_set ?_ GE186.out) | exact HB.out))⟩)
            rintro ⟨gb186, gb187⟩ w42 ⟨hS_, h0_, h1_, h2_, h3_, h4_, h5_, h6_, h7_, h8_⟩
            have n0_ : Aside0 (w42.heap[gb186]? = some (.cells #[.bool false, .int .u64 0, .string (⟨#[]⟩ : ByteArray)] 50 (0, 0))) := ⟨h0_⟩
            have n1_ : Aside0 (w42.heap[gb187]? = some (.cells #[.bool false, .int .u64 0, .string (⟨#[]⟩ : ByteArray)] 50 (0, 0))) := ⟨h1_⟩
            have n2_ : Aside0 (w.heap.size ≤ gb186) := ⟨h2_⟩
            have n3_ : Aside0 (w.heap.size ≤ gb186) := ⟨h3_⟩
            have n4_ : Aside0 (gb187 ≠ gb186) := ⟨h4_⟩
            have n5_ : Aside0 (gb186 ≠ gb187) := ⟨h5_⟩
            have n6_ : Aside0 (w.heap.size ≤ gb187) := ⟨h6_⟩
            have n7_ : Aside0 (w.heap.size ≤ gb187) := ⟨h7_⟩
            have n8_ : Aside0 (Below w.heap.size w w42) := ⟨h8_⟩
            clear HB
            clear h0_ h1_ h2_ h3_ h4_ h5_ h6_ h7_ h8_
            have BK186 := n0_
            have BK187 := n1_
            have GW186 := n2_
            have GE186 := n3_
            have NB187_186 := n4_
            have NB186_187 := n5_
            have GW187 := n6_
            have GE187 := n7_
            have HB := n8_
            clear n0_ n1_ n2_ n3_ n4_ n5_ n6_ n7_ n8_
            have hHeld : w42.cell? (ad184.add ((x5_1).toNat * 3)) = some (.bool ((rd_T50 l0 x5_1).f0)) ∧ w42.cell? ⟨(ad184.add ((x5_1).toNat * 3)).block, (ad184.add ((x5_1).toNat * 3)).off + 1, none⟩ = some (.int .u64 ((rd_T50 l0 x5_1).f1)) ∧ w42.cell? ⟨(ad184.add ((x5_1).toNat * 3)).block, (ad184.add ((x5_1).toNat * 3)).off + 2, none⟩ = some (.string ((rd_T50 l0 x5_1).f2)) ∧ w42.cell? (ad185.add ((x5_1).toNat * 3)) = some (.bool false) ∧ w42.cell? ⟨(ad185.add ((x5_1).toNat * 3)).block, (ad185.add ((x5_1).toNat * 3)).off + 1, none⟩ = some (.int .u64 ((rd_T50 l1 x5_1).f1)) ∧ w42.cell? ⟨(ad185.add ((x5_1).toNat * 3)).block, (ad185.add ((x5_1).toNat * 3)).off + 2, none⟩ = some (.string ((rd_T50 l1 x5_1).f2)) := hS_
            refine norm_ (a' := ?_) ?_ ?_
            rotate_left
            ·
             simp only [putAll, Act.put, sa_, s0_, s1_]
             rfl
            refine one_ (i := 10) (N := none) (b_ 12 2047) rfl rfl (one_of HT_.out (by kernel_rfl)) (by decide) (fun K hK => ?_)
            have hs43 : w42.cell? ⟨gb186, 0, none⟩ = some (.bool false) := (blk_cell BK186.out 0).trans rfl
            have hfs43 := blk_frozen BK186.out 0
            have hns43_1 := NB187_186.out
            have hms43_1 := NB186_187.out
            have hs44 : w42.cell? ⟨gb186, 1, none⟩ = some (.int .u64 0) := (blk_cell BK186.out 1).trans rfl
            have hfs44 := blk_frozen BK186.out 1
            have hns44_1 := NB187_186.out
            have hms44_1 := NB186_187.out
            have hs45 : w42.cell? ⟨gb186, 2, none⟩ = some (.string (⟨#[]⟩ : ByteArray)) := (blk_cell BK186.out 2).trans rfl
            have hfs45 := blk_frozen BK186.out 2
            have hns45_1 := NB187_186.out
            have hms45_1 := NB186_187.out
            refine skip_ (w1 := ?_) (by rfl) rfl ?_ ?_
            rotate_left
            ·
             go_simp
             rfl
            refine hK.out _ _ ⟨((cell_far (p := ⟨gb186, _, none⟩) (ne_ hw184_0 GW186.out) _).trans (((cell_far (p := ⟨gb186, _, none⟩) (ne_ hw184_0 GW186.out) _).trans (((cell_far (p := ⟨gb186, _, none⟩) (ne_ hw184_0 GW186.out) _).trans (hHeld.1)))))), ((cell_far (p := ⟨gb186, _, none⟩) (ne_ hw184_1 GW186.out) _).trans (((cell_far (p := ⟨gb186, _, none⟩) (ne_ hw184_1 GW186.out) _).trans (((cell_far (p := ⟨gb186, _, none⟩) (ne_ hw184_1 GW186.out) _).trans (hHeld.2.1)))))), ((cell_far (p := ⟨gb186, _, none⟩) (ne_ hw184_2 GW186.out) _).trans (((cell_far (p := ⟨gb186, _, none⟩) (ne_ hw184_2 GW186.out) _).trans (((cell_far (p := ⟨gb186, _, none⟩) (ne_ hw184_2 GW186.out) _).trans (hHeld.2.2.1)))))), ((cell_far (p := ⟨gb186, _, none⟩) (ne_ hw185_0 GW186.out) _).trans (((cell_far (p := ⟨gb186, _, none⟩) (ne_ hw185_0 GW186.out) _).trans (((cell_far (p := ⟨gb186, _, none⟩) (ne_ hw185_0 GW186.out) _).trans (hHeld.2.2.2.1)))))), ((cell_far (p := ⟨gb186, _, none⟩) (ne_ hw185_1 GW186.out) _).trans (((cell_far (p := ⟨gb186, _, none⟩) (ne_ hw185_1 GW186.out) _).trans (((cell_far (p := ⟨gb186, _, none⟩) (ne_ hw185_1 GW186.out) _).trans (hHeld.2.2.2.2.1)))))), ((cell_far (p := ⟨gb186, _, none⟩) (ne_ hw185_2 GW186.out) _).trans (((cell_far (p := ⟨gb186, _, none⟩) (ne_ hw185_2 GW186.out) _).trans (((cell_far (p := ⟨gb186, _, none⟩) (ne_ hw185_2 GW186.out) _).trans (hHeld.2.2.2.2.2))))))⟩ (fun hHeld => ?_)
            clear hK K
            refine one_ (i := 11) (N := none) (b_ 12 4095) rfl rfl (one_of HT_.out (by kernel_rfl)) (by decide) (fun K hK => ?_)
            have hs46 : w42.cell? ⟨gb187, 0, none⟩ = some (.bool false) := (blk_cell BK187.out 0).trans rfl
            have hfs46 := blk_frozen BK187.out 0
            have hns46_0 := NB186_187.out
            have hms46_0 := NB187_186.out
            have hs47 : w42.cell? ⟨gb187, 1, none⟩ = some (.int .u64 0) := (blk_cell BK187.out 1).trans rfl
            have hfs47 := blk_frozen BK187.out 1
            have hns47_0 := NB186_187.out
            have hms47_0 := NB187_186.out
            have hs48 : w42.cell? ⟨gb187, 2, none⟩ = some (.string (⟨#[]⟩ : ByteArray)) := (blk_cell BK187.out 2).trans rfl
            have hfs48 := blk_frozen BK187.out 2
            have hns48_0 := NB186_187.out
            have hms48_0 := NB187_186.out
            refine skip_ (w1 := ?_) (by rfl) rfl ?_ ?_
            rotate_left
            ·
             go_simp
             rfl
            refine hK.out _ _ ⟨((cell_far (p := ⟨gb187, _, none⟩) (ne_ hw184_0 GW187.out) _).trans (((cell_far (p := ⟨gb187, _, none⟩) (ne_ hw184_0 GW187.out) _).trans (((cell_far (p := ⟨gb187, _, none⟩) (ne_ hw184_0 GW187.out) _).trans (hHeld.1)))))), ((cell_far (p := ⟨gb187, _, none⟩) (ne_ hw184_1 GW187.out) _).trans (((cell_far (p := ⟨gb187, _, none⟩) (ne_ hw184_1 GW187.out) _).trans (((cell_far (p := ⟨gb187, _, none⟩) (ne_ hw184_1 GW187.out) _).trans (hHeld.2.1)))))), ((cell_far (p := ⟨gb187, _, none⟩) (ne_ hw184_2 GW187.out) _).trans (((cell_far (p := ⟨gb187, _, none⟩) (ne_ hw184_2 GW187.out) _).trans (((cell_far (p := ⟨gb187, _, none⟩) (ne_ hw184_2 GW187.out) _).trans (hHeld.2.2.1)))))), ((cell_far (p := ⟨gb187, _, none⟩) (ne_ hw185_0 GW187.out) _).trans (((cell_far (p := ⟨gb187, _, none⟩) (ne_ hw185_0 GW187.out) _).trans (((cell_far (p := ⟨gb187, _, none⟩) (ne_ hw185_0 GW187.out) _).trans (hHeld.2.2.2.1)))))), ((cell_far (p := ⟨gb187, _, none⟩) (ne_ hw185_1 GW187.out) _).trans (((cell_far (p := ⟨gb187, _, none⟩) (ne_ hw185_1 GW187.out) _).trans (((cell_far (p := ⟨gb187, _, none⟩) (ne_ hw185_1 GW187.out) _).trans (hHeld.2.2.2.2.1)))))), ((cell_far (p := ⟨gb187, _, none⟩) (ne_ hw185_2 GW187.out) _).trans (((cell_far (p := ⟨gb187, _, none⟩) (ne_ hw185_2 GW187.out) _).trans (((cell_far (p := ⟨gb187, _, none⟩) (ne_ hw185_2 GW187.out) _).trans (hHeld.2.2.2.2.2))))))⟩ (fun hHeld => ?_)
            clear hK K
            refine done_ (done_of HT_.out (by kernel_rfl)) ?_
            have hnb49 := NB186_187.out
            have hnc49 := NB187_186.out
            have hcz50_0 : w42.cell? ⟨gb186, 0, none⟩ = some (.bool false) := (blk_cell BK186.out 0).trans rfl
            have hcz50_1 : w42.cell? ⟨gb186, 1, none⟩ = some (.int .u64 0) := (blk_cell BK186.out 1).trans rfl
            have hcz50_2 : w42.cell? ⟨gb186, 2, none⟩ = some (.string (⟨#[]⟩ : ByteArray)) := (blk_cell BK186.out 2).trans rfl
            have hfz50_0 := blk_frozen BK186.out 0
            have hfz50_1 := blk_frozen BK186.out 1
            have hfz50_2 := blk_frozen BK186.out 2
            have hcz51_0 : w42.cell? ⟨gb187, 0, none⟩ = some (.bool false) := (blk_cell BK187.out 0).trans rfl
            have hcz51_1 : w42.cell? ⟨gb187, 1, none⟩ = some (.int .u64 0) := (blk_cell BK187.out 1).trans rfl
            have hcz51_2 : w42.cell? ⟨gb187, 2, none⟩ = some (.string (⟨#[]⟩ : ByteArray)) := (blk_cell BK187.out 2).trans rfl
            have hfz51_0 := blk_frozen BK187.out 0
            have hfz51_1 := blk_frozen BK187.out 1
            have hfz51_2 := blk_frozen BK187.out 2
            first | (have cy1 : ((rd_T50 l0 x5_1).f0) = false := by have h_ := c23b0; rw [← Nbq24.out] at h_; simpa using h_) | (have cy1 : ((rd_T50 l0 x5_1).f0) = true := by have h_ := c23b0; rw [← Nbq24.out] at h_; simpa using h_) | (have cy3 : ((((rd_T50 l0 x5_1).f1) == ((rd_T50 l1 x5_1).f1)) && ((((rd_T50 l0 x5_1).f2).toList) == (((rd_T50 l1 x5_1).f2).toList))) = false := by have h_ := c9b0; rw [c23b2] at h_; simpa using h_) | skip
            try go_wp2
            go_ret
            exact ⟨by first | rfl | (simp [errW_none, errW_some] <;> rfl) | (simp [*, errW_none, errW_some] <;> rfl) | exact ret_ie _ | (simp [*, errW_none, errW_some, bne]; done), by repeat (first | (with_reducible first | exact HB.out | apply below_alloc | apply pw_below_drewN | apply below_drew1 | refine below_set ?_ GE186.out | refine below_set ?_ GE187.out) | exact HB.out)⟩
          ·
           rw [if_neg c23] at H
           have c23b0 : (((rd_T50 l0 x5_1).f0) != ((rd_T50 l1 x5_1).f0)) = false := by simpa using c23
           (try (have c23b1 : decide (((rd_T50 l0 x5_1).f0) = ((rd_T50 l1 x5_1).f0)) = true := by simpa using c23))
           (try (have c23b2 : (((rd_T50 l0 x5_1).f0) == ((rd_T50 l1 x5_1).f0)) = true := by simpa using c23))
           clear c23
           by_cases c52 : ((rd_T50 l0 x5_1).f1) < ((rd_T50 l1 x5_1).f1)
           ·
            rw [if_pos c52] at H
            have c52b0 : decide (((rd_T50 l0 x5_1).f1) < ((rd_T50 l1 x5_1).f1)) = true := decide_eq_true c52
            clear c52
            obtain rfl := Option.some.inj H
            try go_wp2
            have n0_ := Aside0.mk (below_drew1 HB.out)
            clear HB
            have HB := n0_
            clear n0_
            have p184 : 0 ≤ (x5_1 : Int) := of_decide_eq_true (by first | (with_reducible assumption) | assumption)
            have q184 : x5_1 < (l0.length : Int) := of_decide_eq_true (by first | (with_reducible assumption) | assumption)
            obtain ⟨ad184, e184, hx184_0, hx184_1, hx184_2⟩ := at_T50 HR0.out x5_1 p184 q184
            have hw184_2 := hx184_2
            have hw184_1 := hx184_1
            have hw184_0 := hx184_0
            cases e184
            replace hx184_0 := cl_ HB.out hx184_0
            replace hx184_1 := cl_ HB.out hx184_1
            replace hx184_2 := cl_ HB.out hx184_2
            replace p184 := eq_true p184
            replace q184 := eq_true q184
            have p185 : 0 ≤ (x5_1 : Int) := of_decide_eq_true (by first | (with_reducible assumption) | assumption)
            have q185 : x5_1 < (l1.length : Int) := of_decide_eq_true (by first | (with_reducible assumption) | assumption)
            obtain ⟨ad185, e185, hx185_0, hx185_1, hx185_2⟩ := at_T50 HR1.out x5_1 p185 q185
            have hw185_2 := hx185_2
            have hw185_1 := hx185_1
            have hw185_0 := hx185_0
            cases e185
            replace hx185_0 := cl_ HB.out hx185_0
            replace hx185_1 := cl_ HB.out hx185_1
            replace hx185_2 := cl_ HB.out hx185_2
            replace p185 := eq_true p185
            replace q185 := eq_true q185
            refine start_ (n := 12) (S := fun w' => w'.cell? (ad184.add ((x5_1).toNat * 3)) = some (.bool ((rd_T50 l0 x5_1).f0)) ∧ w'.cell? ⟨(ad184.add ((x5_1).toNat * 3)).block, (ad184.add ((x5_1).toNat * 3)).off + 1, none⟩ = some (.int .u64 ((rd_T50 l0 x5_1).f1)) ∧ w'.cell? ⟨(ad184.add ((x5_1).toNat * 3)).block, (ad184.add ((x5_1).toNat * 3)).off + 2, none⟩ = some (.string ((rd_T50 l0 x5_1).f2)) ∧ w'.cell? (ad185.add ((x5_1).toNat * 3)) = some (.bool ((rd_T50 l1 x5_1).f0)) ∧ w'.cell? ⟨(ad185.add ((x5_1).toNat * 3)).block, (ad185.add ((x5_1).toNat * 3)).off + 1, none⟩ = some (.int .u64 ((rd_T50 l1 x5_1).f1)) ∧ w'.cell? ⟨(ad185.add ((x5_1).toNat * 3)).block, (ad185.add ((x5_1).toNat * 3)).off + 2, none⟩ = some (.string ((rd_T50 l1 x5_1).f2))) (ds := []) (b_ 12 0) (by kernel_rfl) rfl rfl ⟨(by first | exact cl_ HB.out hw184_0 | (rw [Nbq24.out]; exact cl_ HB.out hw184_0)), (cl_ HB.out hw184_1), (cl_ HB.out hw184_2), (by first | exact cl_ HB.out hw185_0 | (rw [Nbq24.out]; exact cl_ HB.out hw185_0)), (cl_ HB.out hw185_1), (cl_ HB.out hw185_2)⟩ (fun hHeld => ?_); refine with_tabW millhandref01_Order.tab4 millhandref01_Order.bits4 (fun HT_ HW_ => ?_)
            generalize wc.drew = w53 at HB hx184_0 hx184_1 hx184_2 hx185_0 hx185_1 hx185_2 hHeld ⊢
            refine pA_ 0 20 ?_ (b_ 12 1) (any_of HT_.out (by kernel_rfl)) rfl rfl (fun _ _ _ h => h) (by rfl) ?_ ?_ ?_ ?_
            rotate_left
            ·
             intro w'
             go_simp
             with_reducible rfl
            rotate_left
            ·
             simp only [Act.put, sa_, s0_, s1_, i64_w, i32_w]
             rfl
            refine pA_ 1 21 ?_ (b_ 12 3) (any_of HT_.out (by kernel_rfl)) rfl rfl (fun _ _ _ h => h) (by rfl) ?_ ?_ ?_ ?_
            rotate_left
            ·
             intro w'
             go_simp
             with_reducible rfl
            rotate_left
            ·
             simp only [Act.put, sa_, s0_, s1_, i64_w, i32_w]
             rfl
            refine pA_ 2 22 ?_ (b_ 12 7) (any_of HT_.out (by kernel_rfl)) rfl rfl (fun _ _ _ h => h) (by rfl) ?_ ?_ ?_ ?_
            rotate_left
            ·
             intro w'
             go_simp
             with_reducible rfl
            rotate_left
            ·
             simp only [Act.put, sa_, s0_, s1_, i64_w, i32_w]
             rfl
            refine pA_ 4 24 ?_ (b_ 12 23) (any_of HT_.out (by kernel_rfl)) rfl rfl (fun _ _ _ h => h) (by rfl) ?_ ?_ ?_ ?_
            rotate_left
            ·
             intro w'
             go_simp
             with_reducible rfl
            rotate_left
            ·
             simp only [Act.put, sa_, s0_, s1_, i64_w, i32_w]
             rfl
            refine pA_ 5 25 ?_ (b_ 12 55) (any_of HT_.out (by kernel_rfl)) rfl rfl (fun _ _ _ h => h) (by rfl) ?_ ?_ ?_ ?_
            rotate_left
            ·
             intro w'
             go_simp
             with_reducible rfl
            rotate_left
            ·
             simp only [Act.put, sa_, s0_, s1_, i64_w, i32_w]
             rfl
            refine pA_ 6 26 ?_ (b_ 12 119) (any_of HT_.out (by kernel_rfl)) rfl rfl (fun _ _ _ h => h) (by rfl) ?_ ?_ ?_ ?_
            rotate_left
            ·
             intro w'
             go_simp
             with_reducible rfl
            rotate_left
            ·
             simp only [Act.put, sa_, s0_, s1_, i64_w, i32_w]
             rfl
            refine tA_ 3 23 ?_ (b_ 12 127) (take_ofW HT_.out HW_.out (by kernel_rfl)) rfl rfl (fun _ _ _ h => h) (by rfl) ?_ hHeld ?_ ?_ ?_
            rotate_left
            ·
             rintro w' ⟨s0, s1, s2, s3, s4, s5⟩
             go_simp
             with_reducible rfl
            rotate_left
            ·
             simp only [Act.put, sa_, s0_, s1_, i64_w, i32_w]
             rfl
            refine tA_ 7 27 ?_ (b_ 12 255) (take_ofW HT_.out HW_.out (by kernel_rfl)) rfl rfl (fun _ _ _ h => h) (by rfl) ?_ hHeld ?_ ?_ ?_
            rotate_left
            ·
             rintro w' ⟨s0, s1, s2, s3, s4, s5⟩
             go_simp
             with_reducible rfl
            rotate_left
            ·
             simp only [Act.put, sa_, s0_, s1_, i64_w, i32_w]
             rfl
            refine join_ (σ := Nat × Nat) 2 (b_ 12 1023) (fun s_ => [(6, .pointer (some ⟨s_.1, 0, none⟩)), (7, .pointer (some ⟨s_.2, 0, none⟩))]) (fun s_ w' => (w'.cell? (ad184.add ((x5_1).toNat * 3)) = some (.bool ((rd_T50 l0 x5_1).f0)) ∧ w'.cell? ⟨(ad184.add ((x5_1).toNat * 3)).block, (ad184.add ((x5_1).toNat * 3)).off + 1, none⟩ = some (.int .u64 ((rd_T50 l0 x5_1).f1)) ∧ w'.cell? ⟨(ad184.add ((x5_1).toNat * 3)).block, (ad184.add ((x5_1).toNat * 3)).off + 2, none⟩ = some (.string ((rd_T50 l0 x5_1).f2)) ∧ w'.cell? (ad185.add ((x5_1).toNat * 3)) = some (.bool ((rd_T50 l1 x5_1).f0)) ∧ w'.cell? ⟨(ad185.add ((x5_1).toNat * 3)).block, (ad185.add ((x5_1).toNat * 3)).off + 1, none⟩ = some (.int .u64 ((rd_T50 l1 x5_1).f1)) ∧ w'.cell? ⟨(ad185.add ((x5_1).toNat * 3)).block, (ad185.add ((x5_1).toNat * 3)).off + 2, none⟩ = some (.string ((rd_T50 l1 x5_1).f2))) ∧ (w'.heap[s_.1]? = some (.cells #[.bool false, .int .u64 0, .string (⟨#[]⟩ : ByteArray)] 50 (0, 0))) ∧ (w'.heap[s_.2]? = some (.cells #[.bool false, .int .u64 0, .string (⟨#[]⟩ : ByteArray)] 50 (0, 0))) ∧ (w.heap.size ≤ s_.1) ∧ (w.heap.size ≤ s_.1) ∧ (s_.2 ≠ s_.1) ∧ (s_.1 ≠ s_.2) ∧ (w.heap.size ≤ s_.2) ∧ (w.heap.size ≤ s_.2) ∧ (Below w.heap.size w w')) ?_ ?_
            rotate_left
            ·
             intro hCont
             refine two_ (i := 8) (j := 9) (Ni := some 6) (Nj := some 7) (b_ 12 511) (b_ 12 767) rfl rfl rfl rfl (two_of HT_.out (by kernel_rfl)) (by decide) (by decide) (fun K hK => ?_) (fun K hK => ?_)
             ·
              skip
              refine box_step ?hg (N := 6) ?hd (cs := #[.bool false, .int .u64 0, .string (⟨#[]⟩ : ByteArray)]) (t := 50) ?hr ?_; (case hd => rfl); (case hg => rfl); (case hr => first | (go_simp; done) | (go_simp; rfl))
              intro gb186 hg w54 hbox hb
              obtain ⟨HB, BK186, GW186, GE186⟩ := And.intro (Aside0.mk (below_step (by repeat (first | (with_reducible first | exact HB.out | apply below_alloc | apply pw_below_drewN | apply below_drew1) | exact HB.out)) hb)) (And.intro (Aside0.mk (hbox)) (And.intro (Aside0.mk ((by rw [hg]; exact (below_size (by repeat (first | (with_reducible first | exact HB.out | apply below_alloc | apply pw_below_drewN | apply below_drew1) | exact HB.out))) : w.heap.size ≤ gb186))) (Aside0.mk ((by rw [hg]; exact (below_size (by repeat (first | (with_reducible first | exact HB.out | apply below_alloc | apply pw_below_drewN | apply below_drew1) | exact HB.out))) : w.heap.size ≤ gb186)))))
              clear hb hbox hg
              refine hK.out _ _ ⟨(by first | exact cl_ HB.out hw184_0 | (rw [Nbq24.out]; exact cl_ HB.out hw184_0)), (cl_ HB.out hw184_1), (cl_ HB.out hw184_2), (by first | exact cl_ HB.out hw185_0 | (rw [Nbq24.out]; exact cl_ HB.out hw185_0)), (cl_ HB.out hw185_1), (cl_ HB.out hw185_2)⟩ (fun hHeld => ?_)
              clear hK K
              refine norm_ (a' := ?_) ?_ ?_
              rotate_left
              ·
               show Act.put _ (some 6) _ = _
               simp only [Act.put, sa_, s0_, s1_, i64_w, i32_w]
               rfl
              refine one_ (i := 9) (N := some 7) (b_ 12 1023) rfl rfl (one_of HT_.out (by kernel_rfl)) (by decide) (fun K hK => ?_)
              refine box_step ?hg (N := 7) ?hd (cs := #[.bool false, .int .u64 0, .string (⟨#[]⟩ : ByteArray)]) (t := 50) ?hr ?_; (case hd => rfl); (case hg => rfl); (case hr => first | (go_simp; done) | (go_simp; rfl))
              intro gb187 hg w55 hbox hb
              obtain ⟨BK186, HB, BK187, GW187, GE187, NB186_187, NB187_186⟩ := And.intro (Aside0.mk (blk_below (g := gb186) (o := .cells #[.bool false, .int .u64 0, .string (⟨#[]⟩ : ByteArray)] 50 (0, 0)) (by (with_reducible repeat (first | refine blk_drewN ?_ _ | refine blk_drew ?_ | refine blk_alloc ?_ _)); exact BK186.out) hb)) (And.intro (Aside0.mk (below_step (by repeat (first | (with_reducible first | exact HB.out | apply below_alloc | apply pw_below_drewN | apply below_drew1 | refine below_set ?_ GE186.out) | exact HB.out)) hb)) (And.intro (Aside0.mk (hbox)) (And.intro (Aside0.mk ((by rw [hg]; exact (below_size (by repeat (first | (with_reducible first | exact HB.out | apply below_alloc | apply pw_below_drewN | apply below_drew1 | refine below_set ?_ GE186.out) | exact HB.out))) : w.heap.size ≤ gb187))) (And.intro (Aside0.mk ((by rw [hg]; exact (below_size (by repeat (first | (with_reducible first | exact HB.out | apply below_alloc | apply pw_below_drewN | apply below_drew1 | refine below_set ?_ GE186.out) | exact HB.out))) : w.heap.size ≤ gb187))) (And.intro (Aside0.mk ((by rw [hg]; exact Nat.ne_of_lt (blk_lt (g := gb186) (o := .cells #[.bool false, .int .u64 0, .string (⟨#[]⟩ : ByteArray)] 50 (0, 0)) (by (with_reducible repeat (first | refine blk_drewN ?_ _ | refine blk_drew ?_ | refine blk_alloc ?_ _)); exact BK186.out)) : gb186 ≠ gb187))) (Aside0.mk ((by rw [hg]; exact Nat.ne_of_gt (blk_lt (g := gb186) (o := .cells #[.bool false, .int .u64 0, .string (⟨#[]⟩ : ByteArray)] 50 (0, 0)) (by (with_reducible repeat (first | refine blk_drewN ?_ _ | refine blk_drew ?_ | refine blk_alloc ?_ _)); exact BK186.out)) : gb187 ≠ gb186))))))))
              clear hb hbox hg
              refine hK.out _ _ ⟨(by first | exact cl_ HB.out hw184_0 | (rw [Nbq24.out]; exact cl_ HB.out hw184_0)), (cl_ HB.out hw184_1), (cl_ HB.out hw184_2), (by first | exact cl_ HB.out hw185_0 | (rw [Nbq24.out]; exact cl_ HB.out hw185_0)), (cl_ HB.out hw185_1), (cl_ HB.out hw185_2)⟩ (fun hHeld => ?_)
              clear hK K
              refine norm_ (a' := ?_) ?_ ?_
              rotate_left
              ·
               show Act.put _ (some 7) _ = _
               simp only [Act.put, sa_, s0_, s1_, i64_w, i32_w]
               rfl
              exact norm_ (by simp only [putAll, Act.put, sa_, s0_, s1_]) (hCont (gb186, gb187) _ ⟨hHeld, (by (with_reducible repeat (first | refine blk_drewN ?_ _ | refine blk_drew ?_ | refine blk_alloc ?_ _)); exact BK186.out), (by (with_reducible repeat (first | refine blk_drewN ?_ _ | refine blk_drew ?_ | refine blk_alloc ?_ _)); exact BK187.out), GW186.out, GE186.out, NB187_186.out, NB186_187.out, GW187.out, GE187.out, (by repeat (first | (with_reducible first | exact HB.out | apply below_alloc | apply pw_below_drewN | apply below_drew1 | refine below_set ?_ GE186.out | refine below_set ?_ GE187.out) | exact HB.out))⟩)
             ·
              skip
              refine box_step ?hg (N := 7) ?hd (cs := #[.bool false, .int .u64 0, .string (⟨#[]⟩ : ByteArray)]) (t := 50) ?hr ?_; (case hd => rfl); (case hg => rfl); (case hr => first | (go_simp; done) | (go_simp; rfl))
              intro gb187 hg w54 hbox hb
              obtain ⟨HB, BK187, GW187, GE187⟩ := And.intro (Aside0.mk (below_step (by repeat (first | (with_reducible first | exact HB.out | apply below_alloc | apply pw_below_drewN | apply below_drew1) | exact HB.out)) hb)) (And.intro (Aside0.mk (hbox)) (And.intro (Aside0.mk ((by rw [hg]; exact (below_size (by repeat (first | (with_reducible first | exact HB.out | apply below_alloc | apply pw_below_drewN | apply below_drew1) | exact HB.out))) : w.heap.size ≤ gb187))) (Aside0.mk ((by rw [hg]; exact (below_size (by repeat (first | (with_reducible first | exact HB.out | apply below_alloc | apply pw_below_drewN | apply below_drew1) | exact HB.out))) : w.heap.size ≤ gb187)))))
              clear hb hbox hg
              refine hK.out _ _ ⟨(by first | exact cl_ HB.out hw184_0 | (rw [Nbq24.out]; exact cl_ HB.out hw184_0)), (cl_ HB.out hw184_1), (cl_ HB.out hw184_2), (by first | exact cl_ HB.out hw185_0 | (rw [Nbq24.out]; exact cl_ HB.out hw185_0)), (cl_ HB.out hw185_1), (cl_ HB.out hw185_2)⟩ (fun hHeld => ?_)
              clear hK K
              refine norm_ (a' := ?_) ?_ ?_
              rotate_left
              ·
               show Act.put _ (some 7) _ = _
               simp only [Act.put, sa_, s0_, s1_, i64_w, i32_w]
               rfl
              refine one_ (i := 8) (N := some 6) (b_ 12 1023) rfl rfl (one_of HT_.out (by kernel_rfl)) (by decide) (fun K hK => ?_)
              refine box_step ?hg (N := 6) ?hd (cs := #[.bool false, .int .u64 0, .string (⟨#[]⟩ : ByteArray)]) (t := 50) ?hr ?_; (case hd => rfl); (case hg => rfl); (case hr => first | (go_simp; done) | (go_simp; rfl))
              intro gb186 hg w55 hbox hb
              obtain ⟨BK187, HB, BK186, GW186, GE186, NB187_186, NB186_187⟩ := And.intro (Aside0.mk (blk_below (g := gb187) (o := .cells #[.bool false, .int .u64 0, .string (⟨#[]⟩ : ByteArray)] 50 (0, 0)) (by (with_reducible repeat (first | refine blk_drewN ?_ _ | refine blk_drew ?_ | refine blk_alloc ?_ _)); exact BK187.out) hb)) (And.intro (Aside0.mk (below_step (by repeat (first | (with_reducible first | exact HB.out | apply below_alloc | apply pw_below_drewN | apply below_drew1 | refine below_set ?_ GE187.out) | exact HB.out)) hb)) (And.intro (Aside0.mk (hbox)) (And.intro (Aside0.mk ((by rw [hg]; exact (below_size (by repeat (first | (with_reducible first | exact HB.out | apply below_alloc | apply pw_below_drewN | apply below_drew1 | refine below_set ?_ GE187.out) | exact HB.out))) : w.heap.size ≤ gb186))) (And.intro (Aside0.mk ((by rw [hg]; exact (below_size (by repeat (first | (with_reducible first | exact HB.out | apply below_alloc | apply pw_below_drewN | apply below_drew1 | refine below_set ?_ GE187.out) | exact HB.out))) : w.heap.size ≤ gb186))) (And.intro (Aside0.mk ((by rw [hg]; exact Nat.ne_of_lt (blk_lt (g := gb187) (o := .cells #[.bool false, .int .u64 0, .string (⟨#[]⟩ : ByteArray)] 50 (0, 0)) (by (with_reducible repeat (first | refine blk_drewN ?_ _ | refine blk_drew ?_ | refine blk_alloc ?_ _)); exact BK187.out)) : gb187 ≠ gb186))) (Aside0.mk ((by rw [hg]; exact Nat.ne_of_gt (blk_lt (g := gb187) (o := .cells #[.bool false, .int .u64 0, .string (⟨#[]⟩ : ByteArray)] 50 (0, 0)) (by (with_reducible repeat (first | refine blk_drewN ?_ _ | refine blk_drew ?_ | refine blk_alloc ?_ _)); exact BK187.out)) : gb186 ≠ gb187))))))))
              clear hb hbox hg
              refine hK.out _ _ ⟨(by first | exact cl_ HB.out hw184_0 | (rw [Nbq24.out]; exact cl_ HB.out hw184_0)), (cl_ HB.out hw184_1), (cl_ HB.out hw184_2), (by first | exact cl_ HB.out hw185_0 | (rw [Nbq24.out]; exact cl_ HB.out hw185_0)), (cl_ HB.out hw185_1), (cl_ HB.out hw185_2)⟩ (fun hHeld => ?_)
              clear hK K
              refine norm_ (a' := ?_) ?_ ?_
              rotate_left
              ·
               show Act.put _ (some 6) _ = _
               simp only [Act.put, sa_, s0_, s1_, i64_w, i32_w]
               rfl
              exact norm_ (by simp only [putAll, Act.put, sa_, s0_, s1_]) (hCont (gb186, gb187) _ ⟨hHeld, (by (with_reducible repeat (first | refine blk_drewN ?_ _ | refine blk_drew ?_ | refine blk_alloc ?_ _)); exact BK186.out), (by (with_reducible repeat (first | refine blk_drewN ?_ _ | refine blk_drew ?_ | refine blk_alloc ?_ _)); exact BK187.out), GW186.out, GE186.out, NB187_186.out, NB186_187.out, GW187.out, GE187.out, (by repeat (first | (with_reducible first | exact HB.out | apply below_alloc | apply pw_below_drewN | apply below_drew1 | refine below_set ?_ GE187.out | refine below_set ?_ GE186.out) | exact HB.out))⟩)
            rintro ⟨gb186, gb187⟩ w56 ⟨hS_, h0_, h1_, h2_, h3_, h4_, h5_, h6_, h7_, h8_⟩
            have n0_ : Aside0 (w56.heap[gb186]? = some (.cells #[.bool false, .int .u64 0, .string (⟨#[]⟩ : ByteArray)] 50 (0, 0))) := ⟨h0_⟩
            have n1_ : Aside0 (w56.heap[gb187]? = some (.cells #[.bool false, .int .u64 0, .string (⟨#[]⟩ : ByteArray)] 50 (0, 0))) := ⟨h1_⟩
            have n2_ : Aside0 (w.heap.size ≤ gb186) := ⟨h2_⟩
            have n3_ : Aside0 (w.heap.size ≤ gb186) := ⟨h3_⟩
            have n4_ : Aside0 (gb187 ≠ gb186) := ⟨h4_⟩
            have n5_ : Aside0 (gb186 ≠ gb187) := ⟨h5_⟩
            have n6_ : Aside0 (w.heap.size ≤ gb187) := ⟨h6_⟩
            have n7_ : Aside0 (w.heap.size ≤ gb187) := ⟨h7_⟩
            have n8_ : Aside0 (Below w.heap.size w w56) := ⟨h8_⟩
            clear HB
            clear h0_ h1_ h2_ h3_ h4_ h5_ h6_ h7_ h8_
            have BK186 := n0_
            have BK187 := n1_
            have GW186 := n2_
            have GE186 := n3_
            have NB187_186 := n4_
            have NB186_187 := n5_
            have GW187 := n6_
            have GE187 := n7_
            have HB := n8_
            clear n0_ n1_ n2_ n3_ n4_ n5_ n6_ n7_ n8_
            have hHeld : w56.cell? (ad184.add ((x5_1).toNat * 3)) = some (.bool ((rd_T50 l0 x5_1).f0)) ∧ w56.cell? ⟨(ad184.add ((x5_1).toNat * 3)).block, (ad184.add ((x5_1).toNat * 3)).off + 1, none⟩ = some (.int .u64 ((rd_T50 l0 x5_1).f1)) ∧ w56.cell? ⟨(ad184.add ((x5_1).toNat * 3)).block, (ad184.add ((x5_1).toNat * 3)).off + 2, none⟩ = some (.string ((rd_T50 l0 x5_1).f2)) ∧ w56.cell? (ad185.add ((x5_1).toNat * 3)) = some (.bool ((rd_T50 l1 x5_1).f0)) ∧ w56.cell? ⟨(ad185.add ((x5_1).toNat * 3)).block, (ad185.add ((x5_1).toNat * 3)).off + 1, none⟩ = some (.int .u64 ((rd_T50 l1 x5_1).f1)) ∧ w56.cell? ⟨(ad185.add ((x5_1).toNat * 3)).block, (ad185.add ((x5_1).toNat * 3)).off + 2, none⟩ = some (.string ((rd_T50 l1 x5_1).f2)) := hS_
            refine norm_ (a' := ?_) ?_ ?_
            rotate_left
            ·
             simp only [putAll, Act.put, sa_, s0_, s1_]
             rfl
            refine one_ (i := 10) (N := none) (b_ 12 2047) rfl rfl (one_of HT_.out (by kernel_rfl)) (by decide) (fun K hK => ?_)
            have hs57 : w56.cell? ⟨gb186, 0, none⟩ = some (.bool false) := (blk_cell BK186.out 0).trans rfl
            have hfs57 := blk_frozen BK186.out 0
            have hns57_1 := NB187_186.out
            have hms57_1 := NB186_187.out
            have hs58 : w56.cell? ⟨gb186, 1, none⟩ = some (.int .u64 0) := (blk_cell BK186.out 1).trans rfl
            have hfs58 := blk_frozen BK186.out 1
            have hns58_1 := NB187_186.out
            have hms58_1 := NB186_187.out
            have hs59 : w56.cell? ⟨gb186, 2, none⟩ = some (.string (⟨#[]⟩ : ByteArray)) := (blk_cell BK186.out 2).trans rfl
            have hfs59 := blk_frozen BK186.out 2
            have hns59_1 := NB187_186.out
            have hms59_1 := NB186_187.out
            refine skip_ (w1 := ?_) (by rfl) rfl ?_ ?_
            rotate_left
            ·
             go_simp
             rfl
            refine hK.out _ _ ⟨((cell_far (p := ⟨gb186, _, none⟩) (ne_ hw184_0 GW186.out) _).trans (((cell_far (p := ⟨gb186, _, none⟩) (ne_ hw184_0 GW186.out) _).trans (((cell_far (p := ⟨gb186, _, none⟩) (ne_ hw184_0 GW186.out) _).trans (hHeld.1)))))), ((cell_far (p := ⟨gb186, _, none⟩) (ne_ hw184_1 GW186.out) _).trans (((cell_far (p := ⟨gb186, _, none⟩) (ne_ hw184_1 GW186.out) _).trans (((cell_far (p := ⟨gb186, _, none⟩) (ne_ hw184_1 GW186.out) _).trans (hHeld.2.1)))))), ((cell_far (p := ⟨gb186, _, none⟩) (ne_ hw184_2 GW186.out) _).trans (((cell_far (p := ⟨gb186, _, none⟩) (ne_ hw184_2 GW186.out) _).trans (((cell_far (p := ⟨gb186, _, none⟩) (ne_ hw184_2 GW186.out) _).trans (hHeld.2.2.1)))))), ((cell_far (p := ⟨gb186, _, none⟩) (ne_ hw185_0 GW186.out) _).trans (((cell_far (p := ⟨gb186, _, none⟩) (ne_ hw185_0 GW186.out) _).trans (((cell_far (p := ⟨gb186, _, none⟩) (ne_ hw185_0 GW186.out) _).trans (hHeld.2.2.2.1)))))), ((cell_far (p := ⟨gb186, _, none⟩) (ne_ hw185_1 GW186.out) _).trans (((cell_far (p := ⟨gb186, _, none⟩) (ne_ hw185_1 GW186.out) _).trans (((cell_far (p := ⟨gb186, _, none⟩) (ne_ hw185_1 GW186.out) _).trans (hHeld.2.2.2.2.1)))))), ((cell_far (p := ⟨gb186, _, none⟩) (ne_ hw185_2 GW186.out) _).trans (((cell_far (p := ⟨gb186, _, none⟩) (ne_ hw185_2 GW186.out) _).trans (((cell_far (p := ⟨gb186, _, none⟩) (ne_ hw185_2 GW186.out) _).trans (hHeld.2.2.2.2.2))))))⟩ (fun hHeld => ?_)
            clear hK K
            refine one_ (i := 11) (N := none) (b_ 12 4095) rfl rfl (one_of HT_.out (by kernel_rfl)) (by decide) (fun K hK => ?_)
            have hs60 : w56.cell? ⟨gb187, 0, none⟩ = some (.bool false) := (blk_cell BK187.out 0).trans rfl
            have hfs60 := blk_frozen BK187.out 0
            have hns60_0 := NB186_187.out
            have hms60_0 := NB187_186.out
            have hs61 : w56.cell? ⟨gb187, 1, none⟩ = some (.int .u64 0) := (blk_cell BK187.out 1).trans rfl
            have hfs61 := blk_frozen BK187.out 1
            have hns61_0 := NB186_187.out
            have hms61_0 := NB187_186.out
            have hs62 : w56.cell? ⟨gb187, 2, none⟩ = some (.string (⟨#[]⟩ : ByteArray)) := (blk_cell BK187.out 2).trans rfl
            have hfs62 := blk_frozen BK187.out 2
            have hns62_0 := NB186_187.out
            have hms62_0 := NB187_186.out
            refine skip_ (w1 := ?_) (by rfl) rfl ?_ ?_
            rotate_left
            ·
             go_simp
             rfl
            refine hK.out _ _ ⟨((cell_far (p := ⟨gb187, _, none⟩) (ne_ hw184_0 GW187.out) _).trans (((cell_far (p := ⟨gb187, _, none⟩) (ne_ hw184_0 GW187.out) _).trans (((cell_far (p := ⟨gb187, _, none⟩) (ne_ hw184_0 GW187.out) _).trans (hHeld.1)))))), ((cell_far (p := ⟨gb187, _, none⟩) (ne_ hw184_1 GW187.out) _).trans (((cell_far (p := ⟨gb187, _, none⟩) (ne_ hw184_1 GW187.out) _).trans (((cell_far (p := ⟨gb187, _, none⟩) (ne_ hw184_1 GW187.out) _).trans (hHeld.2.1)))))), ((cell_far (p := ⟨gb187, _, none⟩) (ne_ hw184_2 GW187.out) _).trans (((cell_far (p := ⟨gb187, _, none⟩) (ne_ hw184_2 GW187.out) _).trans (((cell_far (p := ⟨gb187, _, none⟩) (ne_ hw184_2 GW187.out) _).trans (hHeld.2.2.1)))))), ((cell_far (p := ⟨gb187, _, none⟩) (ne_ hw185_0 GW187.out) _).trans (((cell_far (p := ⟨gb187, _, none⟩) (ne_ hw185_0 GW187.out) _).trans (((cell_far (p := ⟨gb187, _, none⟩) (ne_ hw185_0 GW187.out) _).trans (hHeld.2.2.2.1)))))), ((cell_far (p := ⟨gb187, _, none⟩) (ne_ hw185_1 GW187.out) _).trans (((cell_far (p := ⟨gb187, _, none⟩) (ne_ hw185_1 GW187.out) _).trans (((cell_far (p := ⟨gb187, _, none⟩) (ne_ hw185_1 GW187.out) _).trans (hHeld.2.2.2.2.1)))))), ((cell_far (p := ⟨gb187, _, none⟩) (ne_ hw185_2 GW187.out) _).trans (((cell_far (p := ⟨gb187, _, none⟩) (ne_ hw185_2 GW187.out) _).trans (((cell_far (p := ⟨gb187, _, none⟩) (ne_ hw185_2 GW187.out) _).trans (hHeld.2.2.2.2.2))))))⟩ (fun hHeld => ?_)
            clear hK K
            refine done_ (done_of HT_.out (by kernel_rfl)) ?_
            have hnb63 := NB186_187.out
            have hnc63 := NB187_186.out
            have hcz64_0 : w56.cell? ⟨gb186, 0, none⟩ = some (.bool false) := (blk_cell BK186.out 0).trans rfl
            have hcz64_1 : w56.cell? ⟨gb186, 1, none⟩ = some (.int .u64 0) := (blk_cell BK186.out 1).trans rfl
            have hcz64_2 : w56.cell? ⟨gb186, 2, none⟩ = some (.string (⟨#[]⟩ : ByteArray)) := (blk_cell BK186.out 2).trans rfl
            have hfz64_0 := blk_frozen BK186.out 0
            have hfz64_1 := blk_frozen BK186.out 1
            have hfz64_2 := blk_frozen BK186.out 2
            have hcz65_0 : w56.cell? ⟨gb187, 0, none⟩ = some (.bool false) := (blk_cell BK187.out 0).trans rfl
            have hcz65_1 : w56.cell? ⟨gb187, 1, none⟩ = some (.int .u64 0) := (blk_cell BK187.out 1).trans rfl
            have hcz65_2 : w56.cell? ⟨gb187, 2, none⟩ = some (.string (⟨#[]⟩ : ByteArray)) := (blk_cell BK187.out 2).trans rfl
            have hfz65_0 := blk_frozen BK187.out 0
            have hfz65_1 := blk_frozen BK187.out 1
            have hfz65_2 := blk_frozen BK187.out 2
            first | (have cy3 : ((((rd_T50 l0 x5_1).f1) == ((rd_T50 l1 x5_1).f1)) && ((((rd_T50 l0 x5_1).f2).toList) == (((rd_T50 l1 x5_1).f2).toList))) = false := by have h_ := c9b0; rw [c23b2] at h_; simpa using h_) | skip
            try go_wp2
            go_ret
            exact ⟨by first | rfl | (simp [errW_none, errW_some] <;> rfl) | (simp [*, errW_none, errW_some] <;> rfl) | exact ret_ie _ | (simp [*, errW_none, errW_some, bne]; done), by repeat (first | (with_reducible first | exact HB.out | apply below_alloc | apply pw_below_drewN | apply below_drew1 | refine below_set ?_ GE186.out | refine below_set ?_ GE187.out) | exact HB.out)⟩
           ·
            rw [if_neg c52] at H
            have c52b0 : decide (((rd_T50 l0 x5_1).f1) < ((rd_T50 l1 x5_1).f1)) = false := decide_eq_false c52
            clear c52
            by_cases c66 : (Op.bytesLess (((rd_T50 l0 x5_1).f2).toList) (((rd_T50 l1 x5_1).f2).toList)) = true
            ·
             rw [if_pos c66] at H
             have c66b0 : (Op.bytesLess (((rd_T50 l0 x5_1).f2).toList) (((rd_T50 l1 x5_1).f2).toList)) = true := c66
             clear c66
             obtain rfl := Option.some.inj H
             try go_wp2
             have n0_ := Aside0.mk (below_drew1 HB.out)
             clear HB
             have HB := n0_
             clear n0_
             have p184 : 0 ≤ (x5_1 : Int) := of_decide_eq_true (by first | (with_reducible assumption) | assumption)
             have q184 : x5_1 < (l0.length : Int) := of_decide_eq_true (by first | (with_reducible assumption) | assumption)
             obtain ⟨ad184, e184, hx184_0, hx184_1, hx184_2⟩ := at_T50 HR0.out x5_1 p184 q184
             have hw184_2 := hx184_2
             have hw184_1 := hx184_1
             have hw184_0 := hx184_0
             cases e184
             replace hx184_0 := cl_ HB.out hx184_0
             replace hx184_1 := cl_ HB.out hx184_1
             replace hx184_2 := cl_ HB.out hx184_2
             replace p184 := eq_true p184
             replace q184 := eq_true q184
             have p185 : 0 ≤ (x5_1 : Int) := of_decide_eq_true (by first | (with_reducible assumption) | assumption)
             have q185 : x5_1 < (l1.length : Int) := of_decide_eq_true (by first | (with_reducible assumption) | assumption)
             obtain ⟨ad185, e185, hx185_0, hx185_1, hx185_2⟩ := at_T50 HR1.out x5_1 p185 q185
             have hw185_2 := hx185_2
             have hw185_1 := hx185_1
             have hw185_0 := hx185_0
             cases e185
             replace hx185_0 := cl_ HB.out hx185_0
             replace hx185_1 := cl_ HB.out hx185_1
             replace hx185_2 := cl_ HB.out hx185_2
             replace p185 := eq_true p185
             replace q185 := eq_true q185
             refine start_ (n := 12) (S := fun w' => w'.cell? (ad184.add ((x5_1).toNat * 3)) = some (.bool ((rd_T50 l0 x5_1).f0)) ∧ w'.cell? ⟨(ad184.add ((x5_1).toNat * 3)).block, (ad184.add ((x5_1).toNat * 3)).off + 1, none⟩ = some (.int .u64 ((rd_T50 l0 x5_1).f1)) ∧ w'.cell? ⟨(ad184.add ((x5_1).toNat * 3)).block, (ad184.add ((x5_1).toNat * 3)).off + 2, none⟩ = some (.string ((rd_T50 l0 x5_1).f2)) ∧ w'.cell? (ad185.add ((x5_1).toNat * 3)) = some (.bool ((rd_T50 l1 x5_1).f0)) ∧ w'.cell? ⟨(ad185.add ((x5_1).toNat * 3)).block, (ad185.add ((x5_1).toNat * 3)).off + 1, none⟩ = some (.int .u64 ((rd_T50 l1 x5_1).f1)) ∧ w'.cell? ⟨(ad185.add ((x5_1).toNat * 3)).block, (ad185.add ((x5_1).toNat * 3)).off + 2, none⟩ = some (.string ((rd_T50 l1 x5_1).f2))) (ds := []) (b_ 12 0) (by kernel_rfl) rfl rfl ⟨(by first | exact cl_ HB.out hw184_0 | (rw [Nbq24.out]; exact cl_ HB.out hw184_0)), (cl_ HB.out hw184_1), (cl_ HB.out hw184_2), (by first | exact cl_ HB.out hw185_0 | (rw [Nbq24.out]; exact cl_ HB.out hw185_0)), (cl_ HB.out hw185_1), (cl_ HB.out hw185_2)⟩ (fun hHeld => ?_); refine with_tabW millhandref01_Order.tab4 millhandref01_Order.bits4 (fun HT_ HW_ => ?_)
             generalize wc.drew = w67 at HB hx184_0 hx184_1 hx184_2 hx185_0 hx185_1 hx185_2 hHeld ⊢
             refine pA_ 0 20 ?_ (b_ 12 1) (any_of HT_.out (by kernel_rfl)) rfl rfl (fun _ _ _ h => h) (by rfl) ?_ ?_ ?_ ?_
             rotate_left
             ·
              intro w'
              go_simp
              with_reducible rfl
             rotate_left
             ·
              simp only [Act.put, sa_, s0_, s1_, i64_w, i32_w]
              rfl
             refine pA_ 1 21 ?_ (b_ 12 3) (any_of HT_.out (by kernel_rfl)) rfl rfl (fun _ _ _ h => h) (by rfl) ?_ ?_ ?_ ?_
             rotate_left
             ·
              intro w'
              go_simp
              with_reducible rfl
             rotate_left
             ·
              simp only [Act.put, sa_, s0_, s1_, i64_w, i32_w]
              rfl
             refine pA_ 2 22 ?_ (b_ 12 7) (any_of HT_.out (by kernel_rfl)) rfl rfl (fun _ _ _ h => h) (by rfl) ?_ ?_ ?_ ?_
             rotate_left
             ·
              intro w'
              go_simp
              with_reducible rfl
             rotate_left
             ·
              simp only [Act.put, sa_, s0_, s1_, i64_w, i32_w]
              rfl
             refine pA_ 4 24 ?_ (b_ 12 23) (any_of HT_.out (by kernel_rfl)) rfl rfl (fun _ _ _ h => h) (by rfl) ?_ ?_ ?_ ?_
             rotate_left
             ·
              intro w'
              go_simp
              with_reducible rfl
             rotate_left
             ·
              simp only [Act.put, sa_, s0_, s1_, i64_w, i32_w]
              rfl
             refine pA_ 5 25 ?_ (b_ 12 55) (any_of HT_.out (by kernel_rfl)) rfl rfl (fun _ _ _ h => h) (by rfl) ?_ ?_ ?_ ?_
             rotate_left
             ·
              intro w'
              go_simp
              with_reducible rfl
             rotate_left
             ·
              simp only [Act.put, sa_, s0_, s1_, i64_w, i32_w]
              rfl
             refine pA_ 6 26 ?_ (b_ 12 119) (any_of HT_.out (by kernel_rfl)) rfl rfl (fun _ _ _ h => h) (by rfl) ?_ ?_ ?_ ?_
             rotate_left
             ·
              intro w'
              go_simp
              with_reducible rfl
             rotate_left
             ·
              simp only [Act.put, sa_, s0_, s1_, i64_w, i32_w]
              rfl
             refine tA_ 3 23 ?_ (b_ 12 127) (take_ofW HT_.out HW_.out (by kernel_rfl)) rfl rfl (fun _ _ _ h => h) (by rfl) ?_ hHeld ?_ ?_ ?_
             rotate_left
             ·
              rintro w' ⟨s0, s1, s2, s3, s4, s5⟩
              go_simp
              with_reducible rfl
             rotate_left
             ·
              simp only [Act.put, sa_, s0_, s1_, i64_w, i32_w]
              rfl
             refine tA_ 7 27 ?_ (b_ 12 255) (take_ofW HT_.out HW_.out (by kernel_rfl)) rfl rfl (fun _ _ _ h => h) (by rfl) ?_ hHeld ?_ ?_ ?_
             rotate_left
             ·
              rintro w' ⟨s0, s1, s2, s3, s4, s5⟩
              go_simp
              with_reducible rfl
             rotate_left
             ·
              simp only [Act.put, sa_, s0_, s1_, i64_w, i32_w]
              rfl
             refine join_ (σ := Nat × Nat) 2 (b_ 12 1023) (fun s_ => [(6, .pointer (some ⟨s_.1, 0, none⟩)), (7, .pointer (some ⟨s_.2, 0, none⟩))]) (fun s_ w' => (w'.cell? (ad184.add ((x5_1).toNat * 3)) = some (.bool ((rd_T50 l0 x5_1).f0)) ∧ w'.cell? ⟨(ad184.add ((x5_1).toNat * 3)).block, (ad184.add ((x5_1).toNat * 3)).off + 1, none⟩ = some (.int .u64 ((rd_T50 l0 x5_1).f1)) ∧ w'.cell? ⟨(ad184.add ((x5_1).toNat * 3)).block, (ad184.add ((x5_1).toNat * 3)).off + 2, none⟩ = some (.string ((rd_T50 l0 x5_1).f2)) ∧ w'.cell? (ad185.add ((x5_1).toNat * 3)) = some (.bool ((rd_T50 l1 x5_1).f0)) ∧ w'.cell? ⟨(ad185.add ((x5_1).toNat * 3)).block, (ad185.add ((x5_1).toNat * 3)).off + 1, none⟩ = some (.int .u64 ((rd_T50 l1 x5_1).f1)) ∧ w'.cell? ⟨(ad185.add ((x5_1).toNat * 3)).block, (ad185.add ((x5_1).toNat * 3)).off + 2, none⟩ = some (.string ((rd_T50 l1 x5_1).f2))) ∧ (w'.heap[s_.1]? = some (.cells #[.bool false, .int .u64 0, .string (⟨#[]⟩ : ByteArray)] 50 (0, 0))) ∧ (w'.heap[s_.2]? = some (.cells #[.bool false, .int .u64 0, .string (⟨#[]⟩ : ByteArray)] 50 (0, 0))) ∧ (w.heap.size ≤ s_.1) ∧ (w.heap.size ≤ s_.1) ∧ (s_.2 ≠ s_.1) ∧ (s_.1 ≠ s_.2) ∧ (w.heap.size ≤ s_.2) ∧ (w.heap.size ≤ s_.2) ∧ (Below w.heap.size w w')) ?_ ?_
             rotate_left
             ·
              intro hCont
              refine two_ (i := 8) (j := 9) (Ni := some 6) (Nj := some 7) (b_ 12 511) (b_ 12 767) rfl rfl rfl rfl (two_of HT_.out (by kernel_rfl)) (by decide) (by decide) (fun K hK => ?_) (fun K hK => ?_)
              ·
               skip
               refine box_step ?hg (N := 6) ?hd (cs := #[.bool false, .int .u64 0, .string (⟨#[]⟩ : ByteArray)]) (t := 50) ?hr ?_; (case hd => rfl); (case hg => rfl); (case hr => first | (go_simp; done) | (go_simp; rfl))
               intro gb186 hg w68 hbox hb
               obtain ⟨HB, BK186, GW186, GE186⟩ := And.intro (Aside0.mk (below_step (by repeat (first | (with_reducible first | exact HB.out | apply below_alloc | apply pw_below_drewN | apply below_drew1) | exact HB.out)) hb)) (And.intro (Aside0.mk (hbox)) (And.intro (Aside0.mk ((by rw [hg]; exact (below_size (by repeat (first | (with_reducible first | exact HB.out | apply below_alloc | apply pw_below_drewN | apply below_drew1) | exact HB.out))) : w.heap.size ≤ gb186))) (Aside0.mk ((by rw [hg]; exact (below_size (by repeat (first | (with_reducible first | exact HB.out | apply below_alloc | apply pw_below_drewN | apply below_drew1) | exact HB.out))) : w.heap.size ≤ gb186)))))
               clear hb hbox hg
               refine hK.out _ _ ⟨(by first | exact cl_ HB.out hw184_0 | (rw [Nbq24.out]; exact cl_ HB.out hw184_0)), (cl_ HB.out hw184_1), (cl_ HB.out hw184_2), (by first | exact cl_ HB.out hw185_0 | (rw [Nbq24.out]; exact cl_ HB.out hw185_0)), (cl_ HB.out hw185_1), (cl_ HB.out hw185_2)⟩ (fun hHeld => ?_)
               clear hK K
               refine norm_ (a' := ?_) ?_ ?_
               rotate_left
               ·
                show Act.put _ (some 6) _ = _
                simp only [Act.put, sa_, s0_, s1_, i64_w, i32_w]
                rfl
               refine one_ (i := 9) (N := some 7) (b_ 12 1023) rfl rfl (one_of HT_.out (by kernel_rfl)) (by decide) (fun K hK => ?_)
               refine box_step ?hg (N := 7) ?hd (cs := #[.bool false, .int .u64 0, .string (⟨#[]⟩ : ByteArray)]) (t := 50) ?hr ?_; (case hd => rfl); (case hg => rfl); (case hr => first | (go_simp; done) | (go_simp; rfl))
               intro gb187 hg w69 hbox hb
               obtain ⟨BK186, HB, BK187, GW187, GE187, NB186_187, NB187_186⟩ := And.intro (Aside0.mk (blk_below (g := gb186) (o := .cells #[.bool false, .int .u64 0, .string (⟨#[]⟩ : ByteArray)] 50 (0, 0)) (by (with_reducible repeat (first | refine blk_drewN ?_ _ | refine blk_drew ?_ | refine blk_alloc ?_ _)); exact BK186.out) hb)) (And.intro (Aside0.mk (below_step (by repeat (first | (with_reducible first | exact HB.out | apply below_alloc | apply pw_below_drewN | apply below_drew1 | refine below_set ?_ GE186.out) | exact HB.out)) hb)) (And.intro (Aside0.mk (hbox)) (And.intro (Aside0.mk ((by rw [hg]; exact (below_size (by repeat (first | (with_reducible first | exact HB.out | apply below_alloc | apply pw_below_drewN | apply below_drew1 | refine below_set ?_ GE186.out) | exact HB.out))) : w.heap.size ≤ gb187))) (And.intro (Aside0.mk ((by rw [hg]; exact (below_size (by repeat (first | (with_reducible first | exact HB.out | apply below_alloc | apply pw_below_drewN | apply below_drew1 | refine below_set ?_ GE186.out) | exact HB.out))) : w.heap.size ≤ gb187))) (And.intro (Aside0.mk ((by rw [hg]; exact Nat.ne_of_lt (blk_lt (g := gb186) (o := .cells #[.bool false, .int .u64 0, .string (⟨#[]⟩ : ByteArray)] 50 (0, 0)) (by (with_reducible repeat (first | refine blk_drewN ?_ _ | refine blk_drew ?_ | refine blk_alloc ?_ _)); exact BK186.out)) : gb186 ≠ gb187))) (Aside0.mk ((by rw [hg]; exact Nat.ne_of_gt (blk_lt (g := gb186) (o := .cells #[.bool false, .int .u64 0, .string (⟨#[]⟩ : ByteArray)] 50 (0, 0)) (by (with_reducible repeat (first | refine blk_drewN ?_ _ | refine blk_drew ?_ | refine blk_alloc ?_ _)); exact BK186.out)) : gb187 ≠ gb186))))))))
               clear hb hbox hg
               refine hK.out _ _ ⟨(by first | exact cl_ HB.out hw184_0 | (rw [Nbq24.out]; exact cl_ HB.out hw184_0)), (cl_ HB.out hw184_1), (cl_ HB.out hw184_2), (by first | exact cl_ HB.out hw185_0 | (rw [Nbq24.out]; exact cl_ HB.out hw185_0)), (cl_ HB.out hw185_1), (cl_ HB.out hw185_2)⟩ (fun hHeld => ?_)
               clear hK K
               refine norm_ (a' := ?_) ?_ ?_
               rotate_left
               ·
                show Act.put _ (some 7) _ = _
                simp only [Act.put, sa_, s0_, s1_, i64_w, i32_w]
                rfl
               exact norm_ (by simp only [putAll, Act.put, sa_, s0_, s1_]) (hCont (gb186, gb187) _ ⟨hHeld, (by (with_reducible repeat (first | refine blk_drewN ?_ _ | refine blk_drew ?_ | refine blk_alloc ?_ _)); exact BK186.out), (by (with_reducible repeat (first | refine blk_drewN ?_ _ | refine blk_drew ?_ | refine blk_alloc ?_ _)); exact BK187.out), GW186.out, GE186.out, NB187_186.out, NB186_187.out, GW187.out, GE187.out, (by repeat (first | (with_reducible first | exact HB.out | apply below_alloc | apply pw_below_drewN | apply below_drew1 | refine below_set ?_ GE186.out | refine below_set ?_ GE187.out) | exact HB.out))⟩)
              ·
               skip
               refine box_step ?hg (N := 7) ?hd (cs := #[.bool false, .int .u64 0, .string (⟨#[]⟩ : ByteArray)]) (t := 50) ?hr ?_; (case hd => rfl); (case hg => rfl); (case hr => first | (go_simp; done) | (go_simp; rfl))
               intro gb187 hg w68 hbox hb
               obtain ⟨HB, BK187, GW187, GE187⟩ := And.intro (Aside0.mk (below_step (by repeat (first | (with_reducible first | exact HB.out | apply below_alloc | apply pw_below_drewN | apply below_drew1) | exact HB.out)) hb)) (And.intro (Aside0.mk (hbox)) (And.intro (Aside0.mk ((by rw [hg]; exact (below_size (by repeat (first | (with_reducible first | exact HB.out | apply below_alloc | apply pw_below_drewN | apply below_drew1) | exact HB.out))) : w.heap.size ≤ gb187))) (Aside0.mk ((by rw [hg]; exact (below_size (by repeat (first | (with_reducible first | exact HB.out | apply below_alloc | apply pw_below_drewN | apply below_drew1) | exact HB.out))) : w.heap.size ≤ gb187)))))
               clear hb hbox hg
               refine hK.out _ _ ⟨(by first | exact cl_ HB.out hw184_0 | (rw [Nbq24.out]; exact cl_ HB.out hw184_0)), (cl_ HB.out hw184_1), (cl_ HB.out hw184_2), (by first | exact cl_ HB.out hw185_0 | (rw [Nbq24.out]; exact cl_ HB.out hw185_0)), (cl_ HB.out hw185_1), (cl_ HB.out hw185_2)⟩ (fun hHeld => ?_)
               clear hK K
               refine norm_ (a' := ?_) ?_ ?_
               rotate_left
               ·
                show Act.put _ (some 7) _ = _
                simp only [Act.put, sa_, s0_, s1_, i64_w, i32_w]
                rfl
               refine one_ (i := 8) (N := some 6) (b_ 12 1023) rfl rfl (one_of HT_.out (by kernel_rfl)) (by decide) (fun K hK => ?_)
               refine box_step ?hg (N := 6) ?hd (cs := #[.bool false, .int .u64 0, .string (⟨#[]⟩ : ByteArray)]) (t := 50) ?hr ?_; (case hd => rfl); (case hg => rfl); (case hr => first | (go_simp; done) | (go_simp; rfl))
               intro gb186 hg w69 hbox hb
               obtain ⟨BK187, HB, BK186, GW186, GE186, NB187_186, NB186_187⟩ := And.intro (Aside0.mk (blk_below (g := gb187) (o := .cells #[.bool false, .int .u64 0, .string (⟨#[]⟩ : ByteArray)] 50 (0, 0)) (by (with_reducible repeat (first | refine blk_drewN ?_ _ | refine blk_drew ?_ | refine blk_alloc ?_ _)); exact BK187.out) hb)) (And.intro (Aside0.mk (below_step (by repeat (first | (with_reducible first | exact HB.out | apply below_alloc | apply pw_below_drewN | apply below_drew1 | refine below_set ?_ GE187.out) | exact HB.out)) hb)) (And.intro (Aside0.mk (hbox)) (And.intro (Aside0.mk ((by rw [hg]; exact (below_size (by repeat (first | (with_reducible first | exact HB.out | apply below_alloc | apply pw_below_drewN | apply below_drew1 | refine below_set ?_ GE187.out) | exact HB.out))) : w.heap.size ≤ gb186))) (And.intro (Aside0.mk ((by rw [hg]; exact (below_size (by repeat (first | (with_reducible first | exact HB.out | apply below_alloc | apply pw_below_drewN | apply below_drew1 | refine below_set ?_ GE187.out) | exact HB.out))) : w.heap.size ≤ gb186))) (And.intro (Aside0.mk ((by rw [hg]; exact Nat.ne_of_lt (blk_lt (g := gb187) (o := .cells #[.bool false, .int .u64 0, .string (⟨#[]⟩ : ByteArray)] 50 (0, 0)) (by (with_reducible repeat (first | refine blk_drewN ?_ _ | refine blk_drew ?_ | refine blk_alloc ?_ _)); exact BK187.out)) : gb187 ≠ gb186))) (Aside0.mk ((by rw [hg]; exact Nat.ne_of_gt (blk_lt (g := gb187) (o := .cells #[.bool false, .int .u64 0, .string (⟨#[]⟩ : ByteArray)] 50 (0, 0)) (by (with_reducible repeat (first | refine blk_drewN ?_ _ | refine blk_drew ?_ | refine blk_alloc ?_ _)); exact BK187.out)) : gb186 ≠ gb187))))))))
               clear hb hbox hg
               refine hK.out _ _ ⟨(by first | exact cl_ HB.out hw184_0 | (rw [Nbq24.out]; exact cl_ HB.out hw184_0)), (cl_ HB.out hw184_1), (cl_ HB.out hw184_2), (by first | exact cl_ HB.out hw185_0 | (rw [Nbq24.out]; exact cl_ HB.out hw185_0)), (cl_ HB.out hw185_1), (cl_ HB.out hw185_2)⟩ (fun hHeld => ?_)
               clear hK K
               refine norm_ (a' := ?_) ?_ ?_
               rotate_left
               ·
                show Act.put _ (some 6) _ = _
                simp only [Act.put, sa_, s0_, s1_, i64_w, i32_w]
                rfl
               exact norm_ (by simp only [putAll, Act.put, sa_, s0_, s1_]) (hCont (gb186, gb187) _ ⟨hHeld, (by (with_reducible repeat (first | refine blk_drewN ?_ _ | refine blk_drew ?_ | refine blk_alloc ?_ _)); exact BK186.out), (by (with_reducible repeat (first | refine blk_drewN ?_ _ | refine blk_drew ?_ | refine blk_alloc ?_ _)); exact BK187.out), GW186.out, GE186.out, NB187_186.out, NB186_187.out, GW187.out, GE187.out, (by repeat (first | (with_reducible first | exact HB.out | apply below_alloc | apply pw_below_drewN | apply below_drew1 | refine below_set ?_ GE187.out | refine below_set ?_ GE186.out) | exact HB.out))⟩)
             rintro ⟨gb186, gb187⟩ w70 ⟨hS_, h0_, h1_, h2_, h3_, h4_, h5_, h6_, h7_, h8_⟩
             have n0_ : Aside0 (w70.heap[gb186]? = some (.cells #[.bool false, .int .u64 0, .string (⟨#[]⟩ : ByteArray)] 50 (0, 0))) := ⟨h0_⟩
             have n1_ : Aside0 (w70.heap[gb187]? = some (.cells #[.bool false, .int .u64 0, .string (⟨#[]⟩ : ByteArray)] 50 (0, 0))) := ⟨h1_⟩
             have n2_ : Aside0 (w.heap.size ≤ gb186) := ⟨h2_⟩
             have n3_ : Aside0 (w.heap.size ≤ gb186) := ⟨h3_⟩
             have n4_ : Aside0 (gb187 ≠ gb186) := ⟨h4_⟩
             have n5_ : Aside0 (gb186 ≠ gb187) := ⟨h5_⟩
             have n6_ : Aside0 (w.heap.size ≤ gb187) := ⟨h6_⟩
             have n7_ : Aside0 (w.heap.size ≤ gb187) := ⟨h7_⟩
             have n8_ : Aside0 (Below w.heap.size w w70) := ⟨h8_⟩
             clear HB
             clear h0_ h1_ h2_ h3_ h4_ h5_ h6_ h7_ h8_
             have BK186 := n0_
             have BK187 := n1_
             have GW186 := n2_
             have GE186 := n3_
             have NB187_186 := n4_
             have NB186_187 := n5_
             have GW187 := n6_
             have GE187 := n7_
             have HB := n8_
             clear n0_ n1_ n2_ n3_ n4_ n5_ n6_ n7_ n8_
             have hHeld : w70.cell? (ad184.add ((x5_1).toNat * 3)) = some (.bool ((rd_T50 l0 x5_1).f0)) ∧ w70.cell? ⟨(ad184.add ((x5_1).toNat * 3)).block, (ad184.add ((x5_1).toNat * 3)).off + 1, none⟩ = some (.int .u64 ((rd_T50 l0 x5_1).f1)) ∧ w70.cell? ⟨(ad184.add ((x5_1).toNat * 3)).block, (ad184.add ((x5_1).toNat * 3)).off + 2, none⟩ = some (.string ((rd_T50 l0 x5_1).f2)) ∧ w70.cell? (ad185.add ((x5_1).toNat * 3)) = some (.bool ((rd_T50 l1 x5_1).f0)) ∧ w70.cell? ⟨(ad185.add ((x5_1).toNat * 3)).block, (ad185.add ((x5_1).toNat * 3)).off + 1, none⟩ = some (.int .u64 ((rd_T50 l1 x5_1).f1)) ∧ w70.cell? ⟨(ad185.add ((x5_1).toNat * 3)).block, (ad185.add ((x5_1).toNat * 3)).off + 2, none⟩ = some (.string ((rd_T50 l1 x5_1).f2)) := hS_
             refine norm_ (a' := ?_) ?_ ?_
             rotate_left
             ·
              simp only [putAll, Act.put, sa_, s0_, s1_]
              rfl
             refine one_ (i := 10) (N := none) (b_ 12 2047) rfl rfl (one_of HT_.out (by kernel_rfl)) (by decide) (fun K hK => ?_)
             have hs71 : w70.cell? ⟨gb186, 0, none⟩ = some (.bool false) := (blk_cell BK186.out 0).trans rfl
             have hfs71 := blk_frozen BK186.out 0
             have hns71_1 := NB187_186.out
             have hms71_1 := NB186_187.out
             have hs72 : w70.cell? ⟨gb186, 1, none⟩ = some (.int .u64 0) := (blk_cell BK186.out 1).trans rfl
             have hfs72 := blk_frozen BK186.out 1
             have hns72_1 := NB187_186.out
             have hms72_1 := NB186_187.out
             have hs73 : w70.cell? ⟨gb186, 2, none⟩ = some (.string (⟨#[]⟩ : ByteArray)) := (blk_cell BK186.out 2).trans rfl
             have hfs73 := blk_frozen BK186.out 2
             have hns73_1 := NB187_186.out
             have hms73_1 := NB186_187.out
             refine skip_ (w1 := ?_) (by rfl) rfl ?_ ?_
             rotate_left
             ·
              go_simp
              rfl
             refine hK.out _ _ ⟨((cell_far (p := ⟨gb186, _, none⟩) (ne_ hw184_0 GW186.out) _).trans (((cell_far (p := ⟨gb186, _, none⟩) (ne_ hw184_0 GW186.out) _).trans (((cell_far (p := ⟨gb186, _, none⟩) (ne_ hw184_0 GW186.out) _).trans (hHeld.1)))))), ((cell_far (p := ⟨gb186, _, none⟩) (ne_ hw184_1 GW186.out) _).trans (((cell_far (p := ⟨gb186, _, none⟩) (ne_ hw184_1 GW186.out) _).trans (((cell_far (p := ⟨gb186, _, none⟩) (ne_ hw184_1 GW186.out) _).trans (hHeld.2.1)))))), ((cell_far (p := ⟨gb186, _, none⟩) (ne_ hw184_2 GW186.out) _).trans (((cell_far (p := ⟨gb186, _, none⟩) (ne_ hw184_2 GW186.out) _).trans (((cell_far (p := ⟨gb186, _, none⟩) (ne_ hw184_2 GW186.out) _).trans (hHeld.2.2.1)))))), ((cell_far (p := ⟨gb186, _, none⟩) (ne_ hw185_0 GW186.out) _).trans (((cell_far (p := ⟨gb186, _, none⟩) (ne_ hw185_0 GW186.out) _).trans (((cell_far (p := ⟨gb186, _, none⟩) (ne_ hw185_0 GW186.out) _).trans (hHeld.2.2.2.1)))))), ((cell_far (p := ⟨gb186, _, none⟩) (ne_ hw185_1 GW186.out) _).trans (((cell_far (p := ⟨gb186, _, none⟩) (ne_ hw185_1 GW186.out) _).trans (((cell_far (p := ⟨gb186, _, none⟩) (ne_ hw185_1 GW186.out) _).trans (hHeld.2.2.2.2.1)))))), ((cell_far (p := ⟨gb186, _, none⟩) (ne_ hw185_2 GW186.out) _).trans (((cell_far (p := ⟨gb186, _, none⟩) (ne_ hw185_2 GW186.out) _).trans (((cell_far (p := ⟨gb186, _, none⟩) (ne_ hw185_2 GW186.out) _).trans (hHeld.2.2.2.2.2))))))⟩ (fun hHeld => ?_)
             clear hK K
             refine one_ (i := 11) (N := none) (b_ 12 4095) rfl rfl (one_of HT_.out (by kernel_rfl)) (by decide) (fun K hK => ?_)
             have hs74 : w70.cell? ⟨gb187, 0, none⟩ = some (.bool false) := (blk_cell BK187.out 0).trans rfl
             have hfs74 := blk_frozen BK187.out 0
             have hns74_0 := NB186_187.out
             have hms74_0 := NB187_186.out
             have hs75 : w70.cell? ⟨gb187, 1, none⟩ = some (.int .u64 0) := (blk_cell BK187.out 1).trans rfl
             have hfs75 := blk_frozen BK187.out 1
             have hns75_0 := NB186_187.out
             have hms75_0 := NB187_186.out
             have hs76 : w70.cell? ⟨gb187, 2, none⟩ = some (.string (⟨#[]⟩ : ByteArray)) := (blk_cell BK187.out 2).trans rfl
             have hfs76 := blk_frozen BK187.out 2
             have hns76_0 := NB186_187.out
             have hms76_0 := NB187_186.out
             refine skip_ (w1 := ?_) (by rfl) rfl ?_ ?_
             rotate_left
             ·
              go_simp
              rfl
             refine hK.out _ _ ⟨((cell_far (p := ⟨gb187, _, none⟩) (ne_ hw184_0 GW187.out) _).trans (((cell_far (p := ⟨gb187, _, none⟩) (ne_ hw184_0 GW187.out) _).trans (((cell_far (p := ⟨gb187, _, none⟩) (ne_ hw184_0 GW187.out) _).trans (hHeld.1)))))), ((cell_far (p := ⟨gb187, _, none⟩) (ne_ hw184_1 GW187.out) _).trans (((cell_far (p := ⟨gb187, _, none⟩) (ne_ hw184_1 GW187.out) _).trans (((cell_far (p := ⟨gb187, _, none⟩) (ne_ hw184_1 GW187.out) _).trans (hHeld.2.1)))))), ((cell_far (p := ⟨gb187, _, none⟩) (ne_ hw184_2 GW187.out) _).trans (((cell_far (p := ⟨gb187, _, none⟩) (ne_ hw184_2 GW187.out) _).trans (((cell_far (p := ⟨gb187, _, none⟩) (ne_ hw184_2 GW187.out) _).trans (hHeld.2.2.1)))))), ((cell_far (p := ⟨gb187, _, none⟩) (ne_ hw185_0 GW187.out) _).trans (((cell_far (p := ⟨gb187, _, none⟩) (ne_ hw185_0 GW187.out) _).trans (((cell_far (p := ⟨gb187, _, none⟩) (ne_ hw185_0 GW187.out) _).trans (hHeld.2.2.2.1)))))), ((cell_far (p := ⟨gb187, _, none⟩) (ne_ hw185_1 GW187.out) _).trans (((cell_far (p := ⟨gb187, _, none⟩) (ne_ hw185_1 GW187.out) _).trans (((cell_far (p := ⟨gb187, _, none⟩) (ne_ hw185_1 GW187.out) _).trans (hHeld.2.2.2.2.1)))))), ((cell_far (p := ⟨gb187, _, none⟩) (ne_ hw185_2 GW187.out) _).trans (((cell_far (p := ⟨gb187, _, none⟩) (ne_ hw185_2 GW187.out) _).trans (((cell_far (p := ⟨gb187, _, none⟩) (ne_ hw185_2 GW187.out) _).trans (hHeld.2.2.2.2.2))))))⟩ (fun hHeld => ?_)
             clear hK K
             refine done_ (done_of HT_.out (by kernel_rfl)) ?_
             have hnb77 := NB186_187.out
             have hnc77 := NB187_186.out
             have hcz78_0 : w70.cell? ⟨gb186, 0, none⟩ = some (.bool false) := (blk_cell BK186.out 0).trans rfl
             have hcz78_1 : w70.cell? ⟨gb186, 1, none⟩ = some (.int .u64 0) := (blk_cell BK186.out 1).trans rfl
             have hcz78_2 : w70.cell? ⟨gb186, 2, none⟩ = some (.string (⟨#[]⟩ : ByteArray)) := (blk_cell BK186.out 2).trans rfl
             have hfz78_0 := blk_frozen BK186.out 0
             have hfz78_1 := blk_frozen BK186.out 1
             have hfz78_2 := blk_frozen BK186.out 2
             have hcz79_0 : w70.cell? ⟨gb187, 0, none⟩ = some (.bool false) := (blk_cell BK187.out 0).trans rfl
             have hcz79_1 : w70.cell? ⟨gb187, 1, none⟩ = some (.int .u64 0) := (blk_cell BK187.out 1).trans rfl
             have hcz79_2 : w70.cell? ⟨gb187, 2, none⟩ = some (.string (⟨#[]⟩ : ByteArray)) := (blk_cell BK187.out 2).trans rfl
             have hfz79_0 := blk_frozen BK187.out 0
             have hfz79_1 := blk_frozen BK187.out 1
             have hfz79_2 := blk_frozen BK187.out 2
             first | (have cy3 : ((((rd_T50 l0 x5_1).f1) == ((rd_T50 l1 x5_1).f1)) && ((((rd_T50 l0 x5_1).f2).toList) == (((rd_T50 l1 x5_1).f2).toList))) = false := by have h_ := c9b0; rw [c23b2] at h_; simpa using h_) | skip
             try go_wp2
             go_ret
             exact ⟨by first | rfl | (simp [errW_none, errW_some] <;> rfl) | (simp [*, errW_none, errW_some] <;> rfl) | exact ret_ie _ | (simp [*, errW_none, errW_some, bne]; done), by repeat (first | (with_reducible first | exact HB.out | apply below_alloc | apply pw_below_drewN | apply below_drew1 | refine below_set ?_ GE186.out | refine below_set ?_ GE187.out) | exact HB.out)⟩
            ·
             rw [if_neg c66] at H
             have c66b0 : (Op.bytesLess (((rd_T50 l0 x5_1).f2).toList) (((rd_T50 l1 x5_1).f2).toList)) = false := by simpa using c66
             clear c66
             obtain rfl := Option.some.inj H
             try go_wp2
             have n0_ := Aside0.mk (below_drew1 HB.out)
             clear HB
             have HB := n0_
             clear n0_
             have p184 : 0 ≤ (x5_1 : Int) := of_decide_eq_true (by first | (with_reducible assumption) | assumption)
             have q184 : x5_1 < (l0.length : Int) := of_decide_eq_true (by first | (with_reducible assumption) | assumption)
             obtain ⟨ad184, e184, hx184_0, hx184_1, hx184_2⟩ := at_T50 HR0.out x5_1 p184 q184
             have hw184_2 := hx184_2
             have hw184_1 := hx184_1
             have hw184_0 := hx184_0
             cases e184
             replace hx184_0 := cl_ HB.out hx184_0
             replace hx184_1 := cl_ HB.out hx184_1
             replace hx184_2 := cl_ HB.out hx184_2
             replace p184 := eq_true p184
             replace q184 := eq_true q184
             have p185 : 0 ≤ (x5_1 : Int) := of_decide_eq_true (by first | (with_reducible assumption) | assumption)
             have q185 : x5_1 < (l1.length : Int) := of_decide_eq_true (by first | (with_reducible assumption) | assumption)
             obtain ⟨ad185, e185, hx185_0, hx185_1, hx185_2⟩ := at_T50 HR1.out x5_1 p185 q185
             have hw185_2 := hx185_2
             have hw185_1 := hx185_1
             have hw185_0 := hx185_0
             cases e185
             replace hx185_0 := cl_ HB.out hx185_0
             replace hx185_1 := cl_ HB.out hx185_1
             replace hx185_2 := cl_ HB.out hx185_2
             replace p185 := eq_true p185
             replace q185 := eq_true q185
             refine start_ (n := 12) (S := fun w' => w'.cell? (ad184.add ((x5_1).toNat * 3)) = some (.bool ((rd_T50 l0 x5_1).f0)) ∧ w'.cell? ⟨(ad184.add ((x5_1).toNat * 3)).block, (ad184.add ((x5_1).toNat * 3)).off + 1, none⟩ = some (.int .u64 ((rd_T50 l0 x5_1).f1)) ∧ w'.cell? ⟨(ad184.add ((x5_1).toNat * 3)).block, (ad184.add ((x5_1).toNat * 3)).off + 2, none⟩ = some (.string ((rd_T50 l0 x5_1).f2)) ∧ w'.cell? (ad185.add ((x5_1).toNat * 3)) = some (.bool ((rd_T50 l1 x5_1).f0)) ∧ w'.cell? ⟨(ad185.add ((x5_1).toNat * 3)).block, (ad185.add ((x5_1).toNat * 3)).off + 1, none⟩ = some (.int .u64 ((rd_T50 l1 x5_1).f1)) ∧ w'.cell? ⟨(ad185.add ((x5_1).toNat * 3)).block, (ad185.add ((x5_1).toNat * 3)).off + 2, none⟩ = some (.string ((rd_T50 l1 x5_1).f2))) (ds := []) (b_ 12 0) (by kernel_rfl) rfl rfl ⟨(by first | exact cl_ HB.out hw184_0 | (rw [Nbq24.out]; exact cl_ HB.out hw184_0)), (cl_ HB.out hw184_1), (cl_ HB.out hw184_2), (by first | exact cl_ HB.out hw185_0 | (rw [Nbq24.out]; exact cl_ HB.out hw185_0)), (cl_ HB.out hw185_1), (cl_ HB.out hw185_2)⟩ (fun hHeld => ?_); refine with_tabW millhandref01_Order.tab4 millhandref01_Order.bits4 (fun HT_ HW_ => ?_)
             generalize wc.drew = w80 at HB hx184_0 hx184_1 hx184_2 hx185_0 hx185_1 hx185_2 hHeld ⊢
             refine pA_ 0 20 ?_ (b_ 12 1) (any_of HT_.out (by kernel_rfl)) rfl rfl (fun _ _ _ h => h) (by rfl) ?_ ?_ ?_ ?_
             rotate_left
             ·
              intro w'
              go_simp
              with_reducible rfl
             rotate_left
             ·
              simp only [Act.put, sa_, s0_, s1_, i64_w, i32_w]
              rfl
             refine pA_ 1 21 ?_ (b_ 12 3) (any_of HT_.out (by kernel_rfl)) rfl rfl (fun _ _ _ h => h) (by rfl) ?_ ?_ ?_ ?_
             rotate_left
             ·
              intro w'
              go_simp
              with_reducible rfl
             rotate_left
             ·
              simp only [Act.put, sa_, s0_, s1_, i64_w, i32_w]
              rfl
             refine pA_ 2 22 ?_ (b_ 12 7) (any_of HT_.out (by kernel_rfl)) rfl rfl (fun _ _ _ h => h) (by rfl) ?_ ?_ ?_ ?_
             rotate_left
             ·
              intro w'
              go_simp
              with_reducible rfl
             rotate_left
             ·
              simp only [Act.put, sa_, s0_, s1_, i64_w, i32_w]
              rfl
             refine pA_ 4 24 ?_ (b_ 12 23) (any_of HT_.out (by kernel_rfl)) rfl rfl (fun _ _ _ h => h) (by rfl) ?_ ?_ ?_ ?_
             rotate_left
             ·
              intro w'
              go_simp
              with_reducible rfl
             rotate_left
             ·
              simp only [Act.put, sa_, s0_, s1_, i64_w, i32_w]
              rfl
             refine pA_ 5 25 ?_ (b_ 12 55) (any_of HT_.out (by kernel_rfl)) rfl rfl (fun _ _ _ h => h) (by rfl) ?_ ?_ ?_ ?_
             rotate_left
             ·
              intro w'
              go_simp
              with_reducible rfl
             rotate_left
             ·
              simp only [Act.put, sa_, s0_, s1_, i64_w, i32_w]
              rfl
             refine pA_ 6 26 ?_ (b_ 12 119) (any_of HT_.out (by kernel_rfl)) rfl rfl (fun _ _ _ h => h) (by rfl) ?_ ?_ ?_ ?_
             rotate_left
             ·
              intro w'
              go_simp
              with_reducible rfl
             rotate_left
             ·
              simp only [Act.put, sa_, s0_, s1_, i64_w, i32_w]
              rfl
             refine tA_ 3 23 ?_ (b_ 12 127) (take_ofW HT_.out HW_.out (by kernel_rfl)) rfl rfl (fun _ _ _ h => h) (by rfl) ?_ hHeld ?_ ?_ ?_
             rotate_left
             ·
              rintro w' ⟨s0, s1, s2, s3, s4, s5⟩
              go_simp
              with_reducible rfl
             rotate_left
             ·
              simp only [Act.put, sa_, s0_, s1_, i64_w, i32_w]
              rfl
             refine tA_ 7 27 ?_ (b_ 12 255) (take_ofW HT_.out HW_.out (by kernel_rfl)) rfl rfl (fun _ _ _ h => h) (by rfl) ?_ hHeld ?_ ?_ ?_
             rotate_left
             ·
              rintro w' ⟨s0, s1, s2, s3, s4, s5⟩
              go_simp
              with_reducible rfl
             rotate_left
             ·
              simp only [Act.put, sa_, s0_, s1_, i64_w, i32_w]
              rfl
             refine join_ (σ := Nat × Nat) 2 (b_ 12 1023) (fun s_ => [(6, .pointer (some ⟨s_.1, 0, none⟩)), (7, .pointer (some ⟨s_.2, 0, none⟩))]) (fun s_ w' => (w'.cell? (ad184.add ((x5_1).toNat * 3)) = some (.bool ((rd_T50 l0 x5_1).f0)) ∧ w'.cell? ⟨(ad184.add ((x5_1).toNat * 3)).block, (ad184.add ((x5_1).toNat * 3)).off + 1, none⟩ = some (.int .u64 ((rd_T50 l0 x5_1).f1)) ∧ w'.cell? ⟨(ad184.add ((x5_1).toNat * 3)).block, (ad184.add ((x5_1).toNat * 3)).off + 2, none⟩ = some (.string ((rd_T50 l0 x5_1).f2)) ∧ w'.cell? (ad185.add ((x5_1).toNat * 3)) = some (.bool ((rd_T50 l1 x5_1).f0)) ∧ w'.cell? ⟨(ad185.add ((x5_1).toNat * 3)).block, (ad185.add ((x5_1).toNat * 3)).off + 1, none⟩ = some (.int .u64 ((rd_T50 l1 x5_1).f1)) ∧ w'.cell? ⟨(ad185.add ((x5_1).toNat * 3)).block, (ad185.add ((x5_1).toNat * 3)).off + 2, none⟩ = some (.string ((rd_T50 l1 x5_1).f2))) ∧ (w'.heap[s_.1]? = some (.cells #[.bool false, .int .u64 0, .string (⟨#[]⟩ : ByteArray)] 50 (0, 0))) ∧ (w'.heap[s_.2]? = some (.cells #[.bool false, .int .u64 0, .string (⟨#[]⟩ : ByteArray)] 50 (0, 0))) ∧ (w.heap.size ≤ s_.1) ∧ (w.heap.size ≤ s_.1) ∧ (s_.2 ≠ s_.1) ∧ (s_.1 ≠ s_.2) ∧ (w.heap.size ≤ s_.2) ∧ (w.heap.size ≤ s_.2) ∧ (Below w.heap.size w w')) ?_ ?_
             rotate_left
             ·
              intro hCont
              refine two_ (i := 8) (j := 9) (Ni := some 6) (Nj := some 7) (b_ 12 511) (b_ 12 767) rfl rfl rfl rfl (two_of HT_.out (by kernel_rfl)) (by decide) (by decide) (fun K hK => ?_) (fun K hK => ?_)
              ·
               skip
               refine box_step ?hg (N := 6) ?hd (cs := #[.bool false, .int .u64 0, .string (⟨#[]⟩ : ByteArray)]) (t := 50) ?hr ?_; (case hd => rfl); (case hg => rfl); (case hr => first | (go_simp; done) | (go_simp; rfl))
               intro gb186 hg w81 hbox hb
               obtain ⟨HB, BK186, GW186, GE186⟩ := And.intro (Aside0.mk (below_step (by repeat (first | (with_reducible first | exact HB.out | apply below_alloc | apply pw_below_drewN | apply below_drew1) | exact HB.out)) hb)) (And.intro (Aside0.mk (hbox)) (And.intro (Aside0.mk ((by rw [hg]; exact (below_size (by repeat (first | (with_reducible first | exact HB.out | apply below_alloc | apply pw_below_drewN | apply below_drew1) | exact HB.out))) : w.heap.size ≤ gb186))) (Aside0.mk ((by rw [hg]; exact (below_size (by repeat (first | (with_reducible first | exact HB.out | apply below_alloc | apply pw_below_drewN | apply below_drew1) | exact HB.out))) : w.heap.size ≤ gb186)))))
               clear hb hbox hg
               refine hK.out _ _ ⟨(by first | exact cl_ HB.out hw184_0 | (rw [Nbq24.out]; exact cl_ HB.out hw184_0)), (cl_ HB.out hw184_1), (cl_ HB.out hw184_2), (by first | exact cl_ HB.out hw185_0 | (rw [Nbq24.out]; exact cl_ HB.out hw185_0)), (cl_ HB.out hw185_1), (cl_ HB.out hw185_2)⟩ (fun hHeld => ?_)
               clear hK K
               refine norm_ (a' := ?_) ?_ ?_
               rotate_left
               ·
                show Act.put _ (some 6) _ = _
                simp only [Act.put, sa_, s0_, s1_, i64_w, i32_w]
                rfl
               refine one_ (i := 9) (N := some 7) (b_ 12 1023) rfl rfl (one_of HT_.out (by kernel_rfl)) (by decide) (fun K hK => ?_)
               refine box_step ?hg (N := 7) ?hd (cs := #[.bool false, .int .u64 0, .string (⟨#[]⟩ : ByteArray)]) (t := 50) ?hr ?_; (case hd => rfl); (case hg => rfl); (case hr => first | (go_simp; done) | (go_simp; rfl))
               intro gb187 hg w82 hbox hb
               obtain ⟨BK186, HB, BK187, GW187, GE187, NB186_187, NB187_186⟩ := And.intro (Aside0.mk (blk_below (g := gb186) (o := .cells #[.bool false, .int .u64 0, .string (⟨#[]⟩ : ByteArray)] 50 (0, 0)) (by (with_reducible repeat (first | refine blk_drewN ?_ _ | refine blk_drew ?_ | refine blk_alloc ?_ _)); exact BK186.out) hb)) (And.intro (Aside0.mk (below_step (by repeat (first | (with_reducible first | exact HB.out | apply below_alloc | apply pw_below_drewN | apply below_drew1 | refine below_set ?_ GE186.out) | exact HB.out)) hb)) (And.intro (Aside0.mk (hbox)) (And.intro (Aside0.mk ((by rw [hg]; exact (below_size (by repeat (first | (with_reducible first | exact HB.out | apply below_alloc | apply pw_below_drewN | apply below_drew1 | refine below_set ?_ GE186.out) | exact HB.out))) : w.heap.size ≤ gb187))) (And.intro (Aside0.mk ((by rw [hg]; exact (below_size (by repeat (first | (with_reducible first | exact HB.out | apply below_alloc | apply pw_below_drewN | apply below_drew1 | refine below_set ?_ GE186.out) | exact HB.out))) : w.heap.size ≤ gb187))) (And.intro (Aside0.mk ((by rw [hg]; exact Nat.ne_of_lt (blk_lt (g := gb186) (o := .cells #[.bool false, .int .u64 0, .string (⟨#[]⟩ : ByteArray)] 50 (0, 0)) (by (with_reducible repeat (first | refine blk_drewN ?_ _ | refine blk_drew ?_ | refine blk_alloc ?_ _)); exact BK186.out)) : gb186 ≠ gb187))) (Aside0.mk ((by rw [hg]; exact Nat.ne_of_gt (blk_lt (g := gb186) (o := .cells #[.bool false, .int .u64 0, .string (⟨#[]⟩ : ByteArray)] 50 (0, 0)) (by (with_reducible repeat (first | refine blk_drewN ?_ _ | refine blk_drew ?_ | refine blk_alloc ?_ _)); exact BK186.out)) : gb187 ≠ gb186))))))))
               clear hb hbox hg
               refine hK.out _ _ ⟨(by first | exact cl_ HB.out hw184_0 | (rw [Nbq24.out]; exact cl_ HB.out hw184_0)), (cl_ HB.out hw184_1), (cl_ HB.out hw184_2), (by first | exact cl_ HB.out hw185_0 | (rw [Nbq24.out]; exact cl_ HB.out hw185_0)), (cl_ HB.out hw185_1), (cl_ HB.out hw185_2)⟩ (fun hHeld => ?_)
               clear hK K
               refine norm_ (a' := ?_) ?_ ?_
               rotate_left
               ·
                show Act.put _ (some 7) _ = _
                simp only [Act.put, sa_, s0_, s1_, i64_w, i32_w]
                rfl
               exact norm_ (by simp only [putAll, Act.put, sa_, s0_, s1_]) (hCont (gb186, gb187) _ ⟨hHeld, (by (with_reducible repeat (first | refine blk_drewN ?_ _ | refine blk_drew ?_ | refine blk_alloc ?_ _)); exact BK186.out), (by (with_reducible repeat (first | refine blk_drewN ?_ _ | refine blk_drew ?_ | refine blk_alloc ?_ _)); exact BK187.out), GW186.out, GE186.out, NB187_186.out, NB186_187.out, GW187.out, GE187.out, (by repeat (first | (with_reducible first | exact HB.out | apply below_alloc | apply pw_below_drewN | apply below_drew1 | refine below_set ?_ GE186.out | refine below_set ?_ GE187.out) | exact HB.out))⟩)
              ·
               skip
               refine box_step ?hg (N := 7) ?hd (cs := #[.bool false, .int .u64 0, .string (⟨#[]⟩ : ByteArray)]) (t := 50) ?hr ?_; (case hd => rfl); (case hg => rfl); (case hr => first | (go_simp; done) | (go_simp; rfl))
               intro gb187 hg w81 hbox hb
               obtain ⟨HB, BK187, GW187, GE187⟩ := And.intro (Aside0.mk (below_step (by repeat (first | (with_reducible first | exact HB.out | apply below_alloc | apply pw_below_drewN | apply below_drew1) | exact HB.out)) hb)) (And.intro (Aside0.mk (hbox)) (And.intro (Aside0.mk ((by rw [hg]; exact (below_size (by repeat (first | (with_reducible first | exact HB.out | apply below_alloc | apply pw_below_drewN | apply below_drew1) | exact HB.out))) : w.heap.size ≤ gb187))) (Aside0.mk ((by rw [hg]; exact (below_size (by repeat (first | (with_reducible first | exact HB.out | apply below_alloc | apply pw_below_drewN | apply below_drew1) | exact HB.out))) : w.heap.size ≤ gb187)))))
               clear hb hbox hg
               refine hK.out _ _ ⟨(by first | exact cl_ HB.out hw184_0 | (rw [Nbq24.out]; exact cl_ HB.out hw184_0)), (cl_ HB.out hw184_1), (cl_ HB.out hw184_2), (by first | exact cl_ HB.out hw185_0 | (rw [Nbq24.out]; exact cl_ HB.out hw185_0)), (cl_ HB.out hw185_1), (cl_ HB.out hw185_2)⟩ (fun hHeld => ?_)
               clear hK K
               refine norm_ (a' := ?_) ?_ ?_
               rotate_left
               ·
                show Act.put _ (some 7) _ = _
                simp only [Act.put, sa_, s0_, s1_, i64_w, i32_w]
                rfl
               refine one_ (i := 8) (N := some 6) (b_ 12 1023) rfl rfl (one_of HT_.out (by kernel_rfl)) (by decide) (fun K hK => ?_)
               refine box_step ?hg (N := 6) ?hd (cs := #[.bool false, .int .u64 0, .string (⟨#[]⟩ : ByteArray)]) (t := 50) ?hr ?_; (case hd => rfl); (case hg => rfl); (case hr => first | (go_simp; done) | (go_simp; rfl))
               intro gb186 hg w82 hbox hb
               obtain ⟨BK187, HB, BK186, GW186, GE186, NB187_186, NB186_187⟩ := And.intro (Aside0.mk (blk_below (g := gb187) (o := .cells #[.bool false, .int .u64 0, .string (⟨#[]⟩ : ByteArray)] 50 (0, 0)) (by (with_reducible repeat (first | refine blk_drewN ?_ _ | refine blk_drew ?_ | refine blk_alloc ?_ _)); exact BK187.out) hb)) (And.intro (Aside0.mk (below_step (by repeat (first | (with_reducible first | exact HB.out | apply below_alloc | apply pw_below_drewN | apply below_drew1 | refine below_set ?_ GE187.out) | exact HB.out)) hb)) (And.intro (Aside0.mk (hbox)) (And.intro (Aside0.mk ((by rw [hg]; exact (below_size (by repeat (first | (with_reducible first | exact HB.out | apply below_alloc | apply pw_below_drewN | apply below_drew1 | refine below_set ?_ GE187.out) | exact HB.out))) : w.heap.size ≤ gb186))) (And.intro (Aside0.mk ((by rw [hg]; exact (below_size (by repeat (first | (with_reducible first | exact HB.out | apply below_alloc | apply pw_below_drewN | apply below_drew1 | refine below_set ?_ GE187.out) | exact HB.out))) : w.heap.size ≤ gb186))) (And.intro (Aside0.mk ((by rw [hg]; exact Nat.ne_of_lt (blk_lt (g := gb187) (o := .cells #[.bool false, .int .u64 0, .string (⟨#[]⟩ : ByteArray)] 50 (0, 0)) (by (with_reducible repeat (first | refine blk_drewN ?_ _ | refine blk_drew ?_ | refine blk_alloc ?_ _)); exact BK187.out)) : gb187 ≠ gb186))) (Aside0.mk ((by rw [hg]; exact Nat.ne_of_gt (blk_lt (g := gb187) (o := .cells #[.bool false, .int .u64 0, .string (⟨#[]⟩ : ByteArray)] 50 (0, 0)) (by (with_reducible repeat (first | refine blk_drewN ?_ _ | refine blk_drew ?_ | refine blk_alloc ?_ _)); exact BK187.out)) : gb186 ≠ gb187))))))))
               clear hb hbox hg
               refine hK.out _ _ ⟨(by first | exact cl_ HB.out hw184_0 | (rw [Nbq24.out]; exact cl_ HB.out hw184_0)), (cl_ HB.out hw184_1), (cl_ HB.out hw184_2), (by first | exact cl_ HB.out hw185_0 | (rw [Nbq24.out]; exact cl_ HB.out hw185_0)), (cl_ HB.out hw185_1), (cl_ HB.out hw185_2)⟩ (fun hHeld => ?_)
               clear hK K
               refine norm_ (a' := ?_) ?_ ?_
               rotate_left
               ·
                show Act.put _ (some 6) _ = _
                simp only [Act.put, sa_, s0_, s1_, i64_w, i32_w]
                rfl
               exact norm_ (by simp only [putAll, Act.put, sa_, s0_, s1_]) (hCont (gb186, gb187) _ ⟨hHeld, (by (with_reducible repeat (first | refine blk_drewN ?_ _ | refine blk_drew ?_ | refine blk_alloc ?_ _)); exact BK186.out), (by (with_reducible repeat (first | refine blk_drewN ?_ _ | refine blk_drew ?_ | refine blk_alloc ?_ _)); exact BK187.out), GW186.out, GE186.out, NB187_186.out, NB186_187.out, GW187.out, GE187.out, (by repeat (first | (with_reducible first | exact HB.out | apply below_alloc | apply pw_below_drewN | apply below_drew1 | refine below_set ?_ GE187.out | refine below_set ?_ GE186.out) | exact HB.out))⟩)
             rintro ⟨gb186, gb187⟩ w83 ⟨hS_, h0_, h1_, h2_, h3_, h4_, h5_, h6_, h7_, h8_⟩
             have n0_ : Aside0 (w83.heap[gb186]? = some (.cells #[.bool false, .int .u64 0, .string (⟨#[]⟩ : ByteArray)] 50 (0, 0))) := ⟨h0_⟩
             have n1_ : Aside0 (w83.heap[gb187]? = some (.cells #[.bool false, .int .u64 0, .string (⟨#[]⟩ : ByteArray)] 50 (0, 0))) := ⟨h1_⟩
             have n2_ : Aside0 (w.heap.size ≤ gb186) := ⟨h2_⟩
             have n3_ : Aside0 (w.heap.size ≤ gb186) := ⟨h3_⟩
             have n4_ : Aside0 (gb187 ≠ gb186) := ⟨h4_⟩
             have n5_ : Aside0 (gb186 ≠ gb187) := ⟨h5_⟩
             have n6_ : Aside0 (w.heap.size ≤ gb187) := ⟨h6_⟩
             have n7_ : Aside0 (w.heap.size ≤ gb187) := ⟨h7_⟩
             have n8_ : Aside0 (Below w.heap.size w w83) := ⟨h8_⟩
             clear HB
             clear h0_ h1_ h2_ h3_ h4_ h5_ h6_ h7_ h8_
             have BK186 := n0_
             have BK187 := n1_
             have GW186 := n2_
             have GE186 := n3_
             have NB187_186 := n4_
             have NB186_187 := n5_
             have GW187 := n6_
             have GE187 := n7_
             have HB := n8_
             clear n0_ n1_ n2_ n3_ n4_ n5_ n6_ n7_ n8_
             have hHeld : w83.cell? (ad184.add ((x5_1).toNat * 3)) = some (.bool ((rd_T50 l0 x5_1).f0)) ∧ w83.cell? ⟨(ad184.add ((x5_1).toNat * 3)).block, (ad184.add ((x5_1).toNat * 3)).off + 1, none⟩ = some (.int .u64 ((rd_T50 l0 x5_1).f1)) ∧ w83.cell? ⟨(ad184.add ((x5_1).toNat * 3)).block, (ad184.add ((x5_1).toNat * 3)).off + 2, none⟩ = some (.string ((rd_T50 l0 x5_1).f2)) ∧ w83.cell? (ad185.add ((x5_1).toNat * 3)) = some (.bool ((rd_T50 l1 x5_1).f0)) ∧ w83.cell? ⟨(ad185.add ((x5_1).toNat * 3)).block, (ad185.add ((x5_1).toNat * 3)).off + 1, none⟩ = some (.int .u64 ((rd_T50 l1 x5_1).f1)) ∧ w83.cell? ⟨(ad185.add ((x5_1).toNat * 3)).block, (ad185.add ((x5_1).toNat * 3)).off + 2, none⟩ = some (.string ((rd_T50 l1 x5_1).f2)) := hS_
             refine norm_ (a' := ?_) ?_ ?_
             rotate_left
             ·
              simp only [putAll, Act.put, sa_, s0_, s1_]
              rfl
             refine one_ (i := 10) (N := none) (b_ 12 2047) rfl rfl (one_of HT_.out (by kernel_rfl)) (by decide) (fun K hK => ?_)
             have hs84 : w83.cell? ⟨gb186, 0, none⟩ = some (.bool false) := (blk_cell BK186.out 0).trans rfl
             have hfs84 := blk_frozen BK186.out 0
             have hns84_1 := NB187_186.out
             have hms84_1 := NB186_187.out
             have hs85 : w83.cell? ⟨gb186, 1, none⟩ = some (.int .u64 0) := (blk_cell BK186.out 1).trans rfl
             have hfs85 := blk_frozen BK186.out 1
             have hns85_1 := NB187_186.out
             have hms85_1 := NB186_187.out
             have hs86 : w83.cell? ⟨gb186, 2, none⟩ = some (.string (⟨#[]⟩ : ByteArray)) := (blk_cell BK186.out 2).trans rfl
             have hfs86 := blk_frozen BK186.out 2
             have hns86_1 := NB187_186.out
             have hms86_1 := NB186_187.out
             refine skip_ (w1 := ?_) (by rfl) rfl ?_ ?_
             rotate_left
             ·
              go_simp
              rfl
             refine hK.out _ _ ⟨((cell_far (p := ⟨gb186, _, none⟩) (ne_ hw184_0 GW186.out) _).trans (((cell_far (p := ⟨gb186, _, none⟩) (ne_ hw184_0 GW186.out) _).trans (((cell_far (p := ⟨gb186, _, none⟩) (ne_ hw184_0 GW186.out) _).trans (hHeld.1)))))), ((cell_far (p := ⟨gb186, _, none⟩) (ne_ hw184_1 GW186.out) _).trans (((cell_far (p := ⟨gb186, _, none⟩) (ne_ hw184_1 GW186.out) _).trans (((cell_far (p := ⟨gb186, _, none⟩) (ne_ hw184_1 GW186.out) _).trans (hHeld.2.1)))))), ((cell_far (p := ⟨gb186, _, none⟩) (ne_ hw184_2 GW186.out) _).trans (((cell_far (p := ⟨gb186, _, none⟩) (ne_ hw184_2 GW186.out) _).trans (((cell_far (p := ⟨gb186, _, none⟩) (ne_ hw184_2 GW186.out) _).trans (hHeld.2.2.1)))))), ((cell_far (p := ⟨gb186, _, none⟩) (ne_ hw185_0 GW186.out) _).trans (((cell_far (p := ⟨gb186, _, none⟩) (ne_ hw185_0 GW186.out) _).trans (((cell_far (p := ⟨gb186, _, none⟩) (ne_ hw185_0 GW186.out) _).trans (hHeld.2.2.2.1)))))), ((cell_far (p := ⟨gb186, _, none⟩) (ne_ hw185_1 GW186.out) _).trans (((cell_far (p := ⟨gb186, _, none⟩) (ne_ hw185_1 GW186.out) _).trans (((cell_far (p := ⟨gb186, _, none⟩) (ne_ hw185_1 GW186.out) _).trans (hHeld.2.2.2.2.1)))))), ((cell_far (p := ⟨gb186, _, none⟩) (ne_ hw185_2 GW186.out) _).trans (((cell_far (p := ⟨gb186, _, none⟩) (ne_ hw185_2 GW186.out) _).trans (((cell_far (p := ⟨gb186, _, none⟩) (ne_ hw185_2 GW186.out) _).trans (hHeld.2.2.2.2.2))))))⟩ (fun hHeld => ?_)
             clear hK K
             refine one_ (i := 11) (N := none) (b_ 12 4095) rfl rfl (one_of HT_.out (by kernel_rfl)) (by decide) (fun K hK => ?_)
             have hs87 : w83.cell? ⟨gb187, 0, none⟩ = some (.bool false) := (blk_cell BK187.out 0).trans rfl
             have hfs87 := blk_frozen BK187.out 0
             have hns87_0 := NB186_187.out
             have hms87_0 := NB187_186.out
             have hs88 : w83.cell? ⟨gb187, 1, none⟩ = some (.int .u64 0) := (blk_cell BK187.out 1).trans rfl
             have hfs88 := blk_frozen BK187.out 1
             have hns88_0 := NB186_187.out
             have hms88_0 := NB187_186.out
             have hs89 : w83.cell? ⟨gb187, 2, none⟩ = some (.string (⟨#[]⟩ : ByteArray)) := (blk_cell BK187.out 2).trans rfl
             have hfs89 := blk_frozen BK187.out 2
             have hns89_0 := NB186_187.out
             have hms89_0 := NB187_186.out
             refine skip_ (w1 := ?_) (by rfl) rfl ?_ ?_
             rotate_left
             ·
              go_simp
              rfl
             refine hK.out _ _ ⟨((cell_far (p := ⟨gb187, _, none⟩) (ne_ hw184_0 GW187.out) _).trans (((cell_far (p := ⟨gb187, _, none⟩) (ne_ hw184_0 GW187.out) _).trans (((cell_far (p := ⟨gb187, _, none⟩) (ne_ hw184_0 GW187.out) _).trans (hHeld.1)))))), ((cell_far (p := ⟨gb187, _, none⟩) (ne_ hw184_1 GW187.out) _).trans (((cell_far (p := ⟨gb187, _, none⟩) (ne_ hw184_1 GW187.out) _).trans (((cell_far (p := ⟨gb187, _, none⟩) (ne_ hw184_1 GW187.out) _).trans (hHeld.2.1)))))), ((cell_far (p := ⟨gb187, _, none⟩) (ne_ hw184_2 GW187.out) _).trans (((cell_far (p := ⟨gb187, _, none⟩) (ne_ hw184_2 GW187.out) _).trans (((cell_far (p := ⟨gb187, _, none⟩) (ne_ hw184_2 GW187.out) _).trans (hHeld.2.2.1)))))), ((cell_far (p := ⟨gb187, _, none⟩) (ne_ hw185_0 GW187.out) _).trans (((cell_far (p := ⟨gb187, _, none⟩) (ne_ hw185_0 GW187.out) _).trans (((cell_far (p := ⟨gb187, _, none⟩) (ne_ hw185_0 GW187.out) _).trans (hHeld.2.2.2.1)))))), ((cell_far (p := ⟨gb187, _, none⟩) (ne_ hw185_1 GW187.out) _).trans (((cell_far (p := ⟨gb187, _, none⟩) (ne_ hw185_1 GW187.out) _).trans (((cell_far (p := ⟨gb187, _, none⟩) (ne_ hw185_1 GW187.out) _).trans (hHeld.2.2.2.2.1)))))), ((cell_far (p := ⟨gb187, _, none⟩) (ne_ hw185_2 GW187.out) _).trans (((cell_far (p := ⟨gb187, _, none⟩) (ne_ hw185_2 GW187.out) _).trans (((cell_far (p := ⟨gb187, _, none⟩) (ne_ hw185_2 GW187.out) _).trans (hHeld.2.2.2.2.2))))))⟩ (fun hHeld => ?_)
             clear hK K
             refine done_ (done_of HT_.out (by kernel_rfl)) ?_
             have hnb90 := NB186_187.out
             have hnc90 := NB187_186.out
             have hcz91_0 : w83.cell? ⟨gb186, 0, none⟩ = some (.bool false) := (blk_cell BK186.out 0).trans rfl
             have hcz91_1 : w83.cell? ⟨gb186, 1, none⟩ = some (.int .u64 0) := (blk_cell BK186.out 1).trans rfl
             have hcz91_2 : w83.cell? ⟨gb186, 2, none⟩ = some (.string (⟨#[]⟩ : ByteArray)) := (blk_cell BK186.out 2).trans rfl
             have hfz91_0 := blk_frozen BK186.out 0
             have hfz91_1 := blk_frozen BK186.out 1
             have hfz91_2 := blk_frozen BK186.out 2
             have hcz92_0 : w83.cell? ⟨gb187, 0, none⟩ = some (.bool false) := (blk_cell BK187.out 0).trans rfl
             have hcz92_1 : w83.cell? ⟨gb187, 1, none⟩ = some (.int .u64 0) := (blk_cell BK187.out 1).trans rfl
             have hcz92_2 : w83.cell? ⟨gb187, 2, none⟩ = some (.string (⟨#[]⟩ : ByteArray)) := (blk_cell BK187.out 2).trans rfl
             have hfz92_0 := blk_frozen BK187.out 0
             have hfz92_1 := blk_frozen BK187.out 1
             have hfz92_2 := blk_frozen BK187.out 2
             first | (have cy3 : ((((rd_T50 l0 x5_1).f1) == ((rd_T50 l1 x5_1).f1)) && ((((rd_T50 l0 x5_1).f2).toList) == (((rd_T50 l1 x5_1).f2).toList))) = false := by have h_ := c9b0; rw [c23b2] at h_; simpa using h_) | skip
             try go_wp2
             go_ret
             exact ⟨by first | rfl | (simp [errW_none, errW_some] <;> rfl) | (simp [*, errW_none, errW_some] <;> rfl) | exact ret_ie _ | (simp [*, errW_none, errW_some, bne]; done), by repeat (first | (with_reducible first | exact HB.out | apply below_alloc | apply pw_below_drewN | apply below_drew1 | refine below_set ?_ GE186.out | refine below_set ?_ GE187.out) | exact HB.out)⟩
        ·
         rw [if_neg c8] at H
         exact absurd H (by simp)
       ·
        rw [if_neg c7] at H
        exact absurd H (by simp)
      ·
       rw [if_neg c6] at H
       exact absurd H (by simp)
     ·
      replace c5 := Bool.eq_false_iff.mpr c5
      subst c5
      have H1 : (if (l0.length : Int) < (l1.length : Int) then (some (-1)) else (if (l0.length : Int) > (l1.length : Int) then (some 1) else (some 0))) = some r := by rw [if_neg (show ¬ (false = true) by decide)] at H; exact H
      clear H
      have H := H1
      clear H1
      by_cases c93 : (l0.length : Int) < (l1.length : Int)
      ·
       rw [if_pos c93] at H
       have c93b0 : decide ((l0.length : Int) < (l1.length : Int)) = true := decide_eq_true c93
       have c93b1 : decide (l0.length < l1.length) = true := decide_eq_true (Int.ofNat_lt.mp c93)
       clear c93
       obtain rfl := Option.some.inj H
       go_wp2
       go_ret
       exact ⟨by first | rfl | (simp [errW_none, errW_some] <;> rfl) | (simp [*, errW_none, errW_some] <;> rfl) | exact ret_ie _ | (simp [*, errW_none, errW_some, bne]; done), by repeat (first | (with_reducible first | exact HB.out | apply below_alloc | apply pw_below_drewN | apply below_drew1) | exact HB.out)⟩
      ·
       rw [if_neg c93] at H
       have c93b0 : decide ((l0.length : Int) < (l1.length : Int)) = false := decide_eq_false c93
       have c93b1 : decide (l0.length < l1.length) = false := decide_eq_false (fun h => c93 (Int.ofNat_lt.mpr h))
       clear c93
       by_cases c94 : (l0.length : Int) > (l1.length : Int)
       ·
        rw [if_pos c94] at H
        have c94b0 : decide ((l1.length : Int) < (l0.length : Int)) = true := decide_eq_true c94
        have c94b1 : decide (l1.length < l0.length) = true := decide_eq_true (Int.ofNat_lt.mp c94)
        clear c94
        obtain rfl := Option.some.inj H
        go_wp2
        go_ret
        exact ⟨by first | rfl | (simp [errW_none, errW_some] <;> rfl) | (simp [*, errW_none, errW_some] <;> rfl) | exact ret_ie _ | (simp [*, errW_none, errW_some, bne]; done), by repeat (first | (with_reducible first | exact HB.out | apply below_alloc | apply pw_below_drewN | apply below_drew1) | exact HB.out)⟩
       ·
        rw [if_neg c94] at H
        have c94b0 : decide ((l1.length : Int) < (l0.length : Int)) = false := decide_eq_false c94
        have c94b1 : decide (l1.length < l0.length) = false := decide_eq_false (fun h => c94 (Int.ofNat_lt.mpr h))
        clear c94
        obtain rfl := Option.some.inj H
        go_wp2
        go_ret
        exact ⟨by first | rfl | (simp [errW_none, errW_some] <;> rfl) | (simp [*, errW_none, errW_some] <;> rfl) | exact ret_ie _ | (simp [*, errW_none, errW_some, bne]; done), by repeat (first | (with_reducible first | exact HB.out | apply below_alloc | apply pw_below_drewN | apply below_drew1) | exact HB.out)⟩

end Go.Proofs.YtagdmgjdhbmaiaaDoor.R

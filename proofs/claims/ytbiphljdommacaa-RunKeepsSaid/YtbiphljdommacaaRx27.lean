/- Contracts of Go functions and what they come to, over the translation of this seat: made by a program of this session (print2.py). -/
import Derived.Test.YtbiphljdommacaaS3
import Derived.Test.YtbiphljdommacaaSh
import Derived.Test.YtbiphljdommacaaRx6
import Derived.Test.YtbiphljdommacaaRx24
import Derived.Test.YtbiphljdommacaaRx25
import Derived.Test.YtbiphljdommacaaRx26
namespace Go.Proofs.Ytbiphljdommacaa.R
open Go.RowKit Go.Proofs.Ytbiphljdommacaa.S3 Go.Proofs.Ytbiphljdommacaa.Sh Go.Proofs.Ytbiphljdommacaa.Co Go.Proofs.Ytbiphljdommacaa.Ret Go.Proofs.Ytbiphljdommacaa.Plain Go.Proofs.YtbiphljdommacaaW.PrintWords Go.Proofs.YtbiphljdommacaaW.PrintLast Go.Proofs.YtbiphljdommacaaW.PrintMore Go.Proofs.Ytbiphljdommacaa.Ti
attribute [local go_sem] max2_int min2_int max_two min_two max_three min_three max_four min_four   -- for this text's walks alone
set_option linter.unusedVariables false
set_option linter.unusedSimpArgs false

/-! ### run_Start: function 8 -/
def run_Start.j0 : Nat → Int → ByteArray → Int → Bool → List (S60) → Option (Int × ByteArray × (List (S60)) × Int × (List (S35)) × Int × Int)
 | 0, _, _, _, _, _ => none
 | k + 1, x0, x1, x3, x13, x299000 => if x13 = true then (some (0, (⟨#[]⟩ : ByteArray), ([] : List (S60)), 0, ([] : List (S35)), 0, 2)) else (if (x1.size : Int) < 1 then (some (0, (⟨#[]⟩ : ByteArray), ([] : List (S60)), 0, ([] : List (S35)), 0, 3)) else (if (x1.size : Int) > 24 then (some (0, (⟨#[]⟩ : ByteArray), ([] : List (S60)), 0, ([] : List (S35)), 0, 3)) else ((dag_Check.f k x299000).bind fun t300 => (if t300 = 0 then ((run_ranked.f x3).bind fun t301 => (if t301 = true then (if 0 ≤ (x299000.length : Int) then (if ((x299000.length : Int) : Int).toNat ≤ 7036874417766 then ((run_Twin.f k x0 x1 x299000 1 (List.replicate ((x299000.length : Int) : Int).toNat z35)).bind fun bt305 => ((run_open.f k bt305.1 bt305.2.1 bt305.2.2.1 bt305.2.2.2.1 bt305.2.2.2.2 x3).bind fun bt315 => (some (bt305.1, bt305.2.1, bt305.2.2.1, bt305.2.2.2.1, bt315.2, bt315.1, 0)))) else (none)) else (none)) else (some (0, (⟨#[]⟩ : ByteArray), ([] : List (S60)), 0, ([] : List (S35)), 0, 2)))) else (some (0, (⟨#[]⟩ : ByteArray), ([] : List (S60)), 0, ([] : List (S35)), 0, t300))))))
def run_Start.f (k : Nat) (a0 : Int) (a1 : ByteArray) (l2_0 : List (S60)) (a3 : Int) : Option (Int × ByteArray × (List (S60)) × Int × (List (S35)) × Int × Int) := if a0 < 0 then (run_Start.j0 k a0 a1 a3 (decide (a0 < 0)) l2_0) else (run_Start.j0 k a0 a1 a3 (decide (a0 > 1099511627776)) l2_0)
theorem run_Start.mono_l : ∀ k, (∀ y0 y1 y2 y3 y4, LeO (run_Start.j0 k y0 y1 y2 y3 y4) (run_Start.j0 (k + 1) y0 y1 y2 y3 y4))
 | 0 => fun _ _ _ _ _ r h => by simp [run_Start.j0] at h
 | k + 1 => by
  have ih0 := run_Start.mono_l k
  ·
   intro y0 y1 y2 y3 y4
   unfold run_Start.j0
   repeat' first
   | (with_reducible exact LeO.refl _)
   | (with_reducible refine LeO.ite ?_ ?_)
   | (with_reducible refine LeO.bind ?_ (fun _ => ?_))
   | exact ih0 _ _ _ _ _
   | exact dag_Check.mono _ _
   | exact run_Twin.mono _ _ _ _ _ _
   | exact run_open.mono _ _ _ _ _ _ _
   | exact LeO.none _
   | refine LeO.ite ?_ ?_
   | refine LeO.bind ?_ (fun _ => ?_)
theorem run_Start.mono : ∀ a0 a1 a2 a3 k, LeO (run_Start.f k a0 a1 a2 a3) (run_Start.f (k + 1) a0 a1 a2 a3) := by
 intro a0 a1 a2 a3 k
 have ih0 := run_Start.mono_l k
 unfold run_Start.f
 repeat' first
   | (with_reducible exact LeO.refl _)
   | (with_reducible refine LeO.ite ?_ ?_)
   | (with_reducible refine LeO.bind ?_ (fun _ => ?_))
   | exact ih0 _ _ _ _ _
   | exact dag_Check.mono _ _
   | exact run_Twin.mono _ _ _ _ _ _
   | exact run_open.mono _ _ _ _ _ _ _
   | exact LeO.none _
   | refine LeO.ite ?_ ?_
   | refine LeO.bind ?_ (fun _ => ?_)
def run_Start.T12 : Bool × List (List Nat × List Nat) := (true, [([], []), ([], []), ([], []), ([], []), ([3], [3]), ([4], [4]), ([5, 5], [5]), ([0, 1, 2, 6], [0, 1, 2, 6]), ([7], [7]), ([], []), ([9, 8, 8, 0, 1, 2, 3, 4, 5, 6, 7, 8, 9], [8, 9])])
def run_Start.B12 : List Nat := [0, 0, 0, 0, 8, 24, 56, 127, 255, 0, 1023]
theorem run_Start.tab12 : rtab .any (opsOf Try.f8 12) = run_Start.T12 := by kernel_rfl
theorem run_Start.bits12 : waitsOk run_Start.T12.2 run_Start.B12 = true := by kernel_rfl
set_option maxHeartbeats 8000000 in
set_option maxRecDepth 100000 in
theorem run_Start.calls (k : Nat) (a0 : Int) (a1 : ByteArray) (A2_0 : Option Addr) (c2_0 : Nat) (l2_0 : List (S60)) (a3 : Int) (r1 : Int) (r2 : ByteArray) (r3 : List (S60)) (r4 : Int) (r5 : List (S35)) (r6 : Int) (r7 : Int) (w : World) (hr2_0 : Kd.C k60 w A2_0 l2_0.length l2_0) (hc2_0 : l2_0.length ≤ c2_0) (h : run_Start.f k a0 a1 l2_0 a3 = some (r1, r2, r3, r4, r5, r6, r7)) :
  Calls Try.prog 8 #[.int .i64 a0, .string a1, .agg #[.slice A2_0 l2_0.length c2_0], .int .i64 a3] w fun e w' => ∃ v2_ v4_ : Value, e = .returned (.tuple #[.agg #[.int .i64 r1, .string r2, v2_, .int .u8 r4, v4_], .int .i64 r6, .int .i64 r7]) ∧ Kd.S k60 60 w' w.heap.size (fun _ => True) v2_ r3 ∧ Kd.R k35 35 w' w.heap.size (fun _ => True) v4_ r5 ∧ Below w.heap.size w w' := by
 have hu24 := Try.underlying24; have hu29 := Try.underlying29; have HR2_0 := A_ hr2_0; have HC2_0 := A_ hc2_0; clear hr2_0 hc2_0; have HB := A_ (Below.refl w.heap.size w); have H : (if a0 < 0 then (run_Start.j0 k a0 a1 a3 (decide (a0 < 0)) l2_0) else (run_Start.j0 k a0 a1 a3 (decide (a0 > 1099511627776)) l2_0)) = some (r1, r2, r3, r4, r5, r6, r7) := h; clear h; have HC5 := Aside0.mk H; clear H
 go_enter Try.func8, Try.ntmps8
 go_upto_if 13 with (first | ((with_reducible refine gd_ 6 rfl ?_); refine by0_ 6 #[.slice A2_0 l2_0.length c2_0] 24 ?_; clear HB; intro gb298 w6 BK298 GE298 HB; have GW298 := GE298) | ((with_reducible refine gd_ 8 rfl ?_); refine by1_ 8 #[.int .i64 0, .string (⟨#[]⟩ : ByteArray), .slice none 0 0, .int .u8 0, .slice none 0 0] 29 BK298 ?_; clear HB BK298; intro gb299 w7 BK299 GE299 HB NB298_299 NB299_298 BK298; have GW299 := GE299))
 (try simp only [Act.put, sa_, s0_, s1_])
 go_cut [13] (fun v13 wc => ∃ (kq : Nat) (x13_4 : Bool), v13 = .bool x13_4 ∧ Aside0 (run_Start.j0 kq a0 a1 a3 x13_4 l2_0 = some (r1, r2, r3, r4, r5, r6, r7)) ∧ Aside0 (kq ≤ k) ∧ Aside0 (wc.heap[gb298]? = some (.cells #[(.slice A2_0 l2_0.length c2_0)] 24 (0, 0))) ∧ Aside0 (wc.heap[gb299]? = some (.cells #[.int .i64 0, .string (⟨#[]⟩ : ByteArray), (.slice none 0 0), .int .u8 0, (.slice none 0 0)] 29 (0, 0))) ∧ Aside0 (Below w.heap.size w wc))
 case first =>
  have H := HC5.out; clear HC5
  by_cases c8 : a0 < 0
  ·
   rw [if_pos c8] at H; have c8b0 : decide (a0 < 0) = true := decide_eq_true c8; clear c8
   (first | rw [c8b0] | (simp only [i64_w, i32_w]; rw [c8b0]) | skip)
   have H' := Aside0.mk H; clear H
   go_wp2
   go_meet
   case rel => exact ⟨_, (decide (a0 < 0)), rl_, H', ⟨le_⟩, ⟨bY_ BK298⟩, ⟨bY_ BK299⟩, ⟨hb_⟩⟩
  ·
   rw [if_neg c8] at H; have c8b0 : decide (a0 < 0) = false := decide_eq_false c8; clear c8
   (first | rw [c8b0] | (simp only [i64_w, i32_w]; rw [c8b0]) | skip)
   have H' := Aside0.mk H; clear H
   go_wp2
   go_meet
   case rel => exact ⟨_, (decide (a0 > 1099511627776)), rl_, H', ⟨le_⟩, ⟨bY_ BK298⟩, ⟨bY_ BK299⟩, ⟨hb_⟩⟩
 case rest =>
  clear HC5; (try clear c8); (try clear c8b0); obtain ⟨kq, x13_4, rfl, HA, HJ4, BK298, BK299, HB⟩ := hcut
  cases kq with
  | zero => exact absurd HA.out (by simp [run_Start.j0])
  | succ kj4 =>
   have H := HA.out; clear HA; simp only [run_Start.j0] at H
   by_cases c9 : x13_4 = true
   ·
    subst c9; have H1 : (some (0, (⟨#[]⟩ : ByteArray), ([] : List (S60)), 0, ([] : List (S35)), 0, 2)) = some (r1, r2, r3, r4, r5, r6, r7) := by rw [if_pos rfl] at H; exact H
    clear H; have H := H1; clear H1; simp only [Option.some.injEq, Prod.mk.injEq] at H; obtain ⟨rfl, rfl, rfl, rfl, rfl, rfl, rfl⟩ := H; have hz11 := cz5_ BK299
    go_wp2
    refine bodyPost_ret (results_ctt rfl _ _ gb299 29 #[.int .i64 0, .string (⟨#[]⟩ : ByteArray), .slice none 0 0, .int .u8 0, .slice none 0 0] (0, 0) _ rfl (bP_ BK299) Try.underlying29 rfl (by kernel_rfl)) rfl ?_
    exact ⟨_, _, re_, nl_, nl_, hb_⟩
   ·
    replace c9 := Bool.eq_false_iff.mpr c9; subst c9; have H1 : (if (a1.size : Int) < 1 then (some (0, (⟨#[]⟩ : ByteArray), ([] : List (S60)), 0, ([] : List (S35)), 0, 3)) else (if (a1.size : Int) > 24 then (some (0, (⟨#[]⟩ : ByteArray), ([] : List (S60)), 0, ([] : List (S35)), 0, 3)) else ((dag_Check.f kj4 l2_0).bind fun t300 => (if t300 = 0 then ((run_ranked.f a3).bind fun t301 => (if t301 = true then (if 0 ≤ (l2_0.length : Int) then (if ((l2_0.length : Int) : Int).toNat ≤ 7036874417766 then ((run_Twin.f kj4 a0 a1 l2_0 1 (List.replicate ((l2_0.length : Int) : Int).toNat z35)).bind fun bt305 => ((run_open.f kj4 bt305.1 bt305.2.1 bt305.2.2.1 bt305.2.2.2.1 bt305.2.2.2.2 a3).bind fun bt315 => (some (bt305.1, bt305.2.1, bt305.2.2.1, bt305.2.2.2.1, bt315.2, bt315.1, 0)))) else (none)) else (none)) else (some (0, (⟨#[]⟩ : ByteArray), ([] : List (S60)), 0, ([] : List (S35)), 0, 2)))) else (some (0, (⟨#[]⟩ : ByteArray), ([] : List (S60)), 0, ([] : List (S35)), 0, t300)))))) = some (r1, r2, r3, r4, r5, r6, r7) := by rw [if_neg (show ¬ (false = true) by decide)] at H; exact H
    clear H; have H := H1; clear H1
    by_cases c12 : (a1.size : Int) < 1
    ·
     rw [if_pos c12] at H; have c12b0 : decide ((a1.size : Int) < 1) = true := decide_eq_true c12; have c12b1 : decide (a1.size < 1) = true := decide_eq_true (by omega); clear c12; simp only [Option.some.injEq, Prod.mk.injEq] at H; obtain ⟨rfl, rfl, rfl, rfl, rfl, rfl, rfl⟩ := H; have hz14 := cz5_ BK299
     go_wp2
     refine bodyPost_ret (results_ctt rfl _ _ gb299 29 #[.int .i64 0, .string (⟨#[]⟩ : ByteArray), .slice none 0 0, .int .u8 0, .slice none 0 0] (0, 0) _ rfl (bP_ BK299) Try.underlying29 rfl (by kernel_rfl)) rfl ?_
     exact ⟨_, _, re_, nl_, nl_, hb_⟩
    ·
     rw [if_neg c12] at H; have c12b0 : decide ((a1.size : Int) < 1) = false := decide_eq_false c12; have c12b1 : decide (a1.size < 1) = false := decide_eq_false (by omega); clear c12
     by_cases c15 : (a1.size : Int) > 24
     ·
      rw [if_pos c15] at H; have c15b0 : decide (24 < (a1.size : Int)) = true := decide_eq_true c15; have c15b1 : decide (24 < a1.size) = true := decide_eq_true (by omega); clear c15; simp only [Option.some.injEq, Prod.mk.injEq] at H; obtain ⟨rfl, rfl, rfl, rfl, rfl, rfl, rfl⟩ := H; have hz17 := cz5_ BK299
      go_wp2
      refine bodyPost_ret (results_ctt rfl _ _ gb299 29 #[.int .i64 0, .string (⟨#[]⟩ : ByteArray), .slice none 0 0, .int .u8 0, .slice none 0 0] (0, 0) _ rfl (bP_ BK299) Try.underlying29 rfl (by kernel_rfl)) rfl ?_
      exact ⟨_, _, re_, nl_, nl_, hb_⟩
     ·
      rw [if_neg c15] at H; have c15b0 : decide (24 < (a1.size : Int)) = false := decide_eq_false c15; have c15b1 : decide (24 < a1.size) = false := decide_eq_false (by omega); clear c15; replace H := Option.bind_eq_some_iff.mp H; obtain ⟨t300, A180, H⟩ := H
      try dsimp only at H
      have A18 := Aside0.mk A180; clear A180
      by_cases c19 : t300 = 0
      ·
       rw [if_pos c19] at H; have c19b0 : (t300 == 0) = true := beq_iff_eq.mpr c19; have c19b1 : (t300 != 0) = false := bne_eq_false_iff_eq.mpr c19; clear c19; replace H := Option.bind_eq_some_iff.mp H; obtain ⟨t301, A200, H⟩ := H
       try dsimp only at H
       have A20 := Aside0.mk A200; clear A200
       by_cases c21 : t301 = true
       ·
        subst c21; have H1 : (if 0 ≤ (l2_0.length : Int) then (if ((l2_0.length : Int) : Int).toNat ≤ 7036874417766 then ((run_Twin.f kj4 a0 a1 l2_0 1 (List.replicate ((l2_0.length : Int) : Int).toNat z35)).bind fun bt305 => ((run_open.f kj4 bt305.1 bt305.2.1 bt305.2.2.1 bt305.2.2.2.1 bt305.2.2.2.2 a3).bind fun bt315 => (some (bt305.1, bt305.2.1, bt305.2.2.1, bt305.2.2.2.1, bt315.2, bt315.1, 0)))) else (none)) else (none)) = some (r1, r2, r3, r4, r5, r6, r7) := by rw [if_pos rfl] at H; exact H
        clear H; have H := H1; clear H1
        by_cases c22 : 0 ≤ (l2_0.length : Int)
        ·
         rw [if_pos c22] at H; have c22b0 := eq_true c22; have c22b1 : decide (0 ≤ (l2_0.length : Int)) = true := decide_eq_true c22; clear c22
         by_cases c23 : ((l2_0.length : Int) : Int).toNat ≤ 7036874417766
         ·
          rw [if_pos c23] at H; have c23b0 := eq_true c23; have c23b1 : decide (((l2_0.length : Int) : Int).toNat ≤ 7036874417766) = true := decide_eq_true c23; clear c23; obtain ⟨y302, hy302⟩ : ∃ y_ : List (S35), y_ = (List.replicate ((l2_0.length : Int) : Int).toNat z35) := ⟨_, rfl⟩; replace H : ((run_Twin.f kj4 a0 a1 l2_0 1 y302).bind fun bt305 => ((run_open.f kj4 bt305.1 bt305.2.1 bt305.2.2.1 bt305.2.2.2.1 bt305.2.2.2.2 a3).bind fun bt315 => (some (bt305.1, bt305.2.1, bt305.2.2.1, bt305.2.2.2.1, bt315.2, bt315.1, 0)))) = some (r1, r2, r3, r4, r5, r6, r7) := by first | (rw [hy302]; with_reducible exact H) | (have H2_ := (Option.bind_some _ _).symm.trans H; rw [hy302]; with_reducible exact H2_) | (have H2_ := (Option.bind_some _ _).symm.trans H; with_reducible exact H2_) | with_reducible exact H | (rw [hy302]; exact H) | exact H
          have Ny302 := A_ hy302; clear hy302; replace H := Option.bind_eq_some_iff.mp H; obtain ⟨⟨t305, t306, t307, t310, t311⟩, A240, H⟩ := H; replace H : ((run_open.f kj4 t305 t306 t307 t310 t311 a3).bind fun bt315 => (some (t305, t306, t307, t310, bt315.2, bt315.1, 0))) = some (r1, r2, r3, r4, r5, r6, r7) := H; have A24 := Aside0.mk A240; clear A240; replace H := Option.bind_eq_some_iff.mp H; obtain ⟨⟨t315, t316⟩, A250, H⟩ := H; replace H : (some (t305, t306, t307, t310, t316, t315, 0)) = some (r1, r2, r3, r4, r5, r6, r7) := H; have A25 := Aside0.mk A250; clear A250; simp only [Option.some.injEq, Prod.mk.injEq] at H; obtain ⟨rfl, rfl, rfl, rfl, rfl, rfl, rfl⟩ := H; have hcz27_0 : wc.cell? ⟨gb298, 0, none⟩ = some (.slice A2_0 l2_0.length c2_0) := ck_ BK298 0; have hfz27_0 := blk_frozen BK298.out 0
          try go_wp2_with (first | ((with_reducible refine gc_ 24 rfl ?_); refine gL_ (some 28) Try.func24 #[.agg #[.slice A2_0 l2_0.length c2_0]] ?_; (with_reducible refine (dag_Check.calls kj4 _ _ l2_0 t300 _ ?side1 ?side2 A18.out).mono ?_); (case side1 => exact cB_ HR2_0); (case side2 => exact HC2_0.out); rintro e w28 ⟨rfl, hb⟩; refine ⟨_, rfl, ?_⟩; replace BK298 := bs_ BK298 hb; replace BK299 := bs_ BK299 hb; replace HB := bB_ hb; (try clear hb); (try clear hk)) | ((with_reducible refine gc_ 25 rfl ?_); refine gL_ (some 34) Try.func25 #[.int .i64 a3] ?_; (with_reducible refine (run_ranked.calls a3 true _ A20.out).mono ?_); rintro e w' ⟨rfl, ⟨nd, rfl⟩⟩; refine ⟨_, rfl, ?_⟩; (try (rw [drewN_self w28]; generalize hq_ : World.drewN w28 _ = w28; have n0_ : Aside0 (w28.heap[gb298]? = some (.cells #[.slice A2_0 l2_0.length c2_0] 24 (0, 0))) := ⟨by rw [← hq_]; exact (bY_ BK298)⟩; have n1_ : Aside0 (w28.heap[gb299]? = some (.cells #[.int .i64 0, .string (⟨#[]⟩ : ByteArray), .slice none 0 0, .int .u8 0, .slice none 0 0] 29 (0, 0))) := ⟨by rw [← hq_]; exact (bY_ BK299)⟩; have n2_ : Aside0 (Below w.heap.size w w28) := ⟨by rw [← hq_]; exact hb_⟩; clear BK298 BK299 HB hq_; have BK298 := n0_; have BK299 := n1_; have HB := n2_; clear n0_ n1_ n2_))))
          replace BK298 := A_ (blk_drew BK298.out); replace BK299 := A_ (blk_drew BK299.out); replace HB := A_ (below_drew1 HB.out); refine start_ (n := 11) (S := fun w' => w'.cell? ⟨gb298, 0, none⟩ = some (.slice A2_0 l2_0.length c2_0)) (ds := []) (b_ 11 0) (by kernel_rfl) rfl rfl (ck_ BK298 0) (fun hHeld => ?_); refine with_tabW run_Start.tab12 run_Start.bits12 (fun HT_ HW_ => ?_); generalize w28.drew = w29 at BK298 BK299 HB hHeld ⊢; refine qX_ 0 37 (b_ 11 1) ?_; refine qX_ 1 38 (b_ 11 3) ?_; refine qX_ 3 40 (b_ 11 11) ?_; refine tA_ 2 39 ?_ (b_ 11 15) (take_ofW HT_.out HW_.out (by kernel_rfl)) rfl rfl (fun _ _ _ h => h) (by rfl) ?_ hHeld ?_ ?_ ?_; rotate_left
          ·
           intro w' s0; go_simp; (with_reducible rfl)
          rotate_left
          ·
           simp only [Act.put, sa_, s0_, s1_, i64_w, i32_w]
           rfl
          refine tA_ 4 41 ?_ (b_ 11 31) (take_ofW HT_.out HW_.out (by kernel_rfl)) rfl rfl (fun _ _ _ h => h) (by rfl) ?_ hHeld ?_ ?_ ?_; rotate_left
          ·
           intro w' s0; go_simp; (with_reducible rfl)
          rotate_left
          ·
           simp only [Act.put, sa_, s0_, s1_, i64_w, i32_w]
           rfl
          refine qX_ 5 42 (b_ 11 63) ?_; refine join_ (σ := Value × Value × Value × Nat) 1 (b_ 11 1023) (fun s_ => [(43, s_.1), (45, .agg #[.int .i64 t305, .string t306, s_.2.1, .int .u8 t310, s_.2.2.1]), (12, .pointer (some ⟨s_.2.2.2, 0, none⟩)), (44, .agg #[.int .i64 a0, .string a1, .slice A2_0 l2_0.length c2_0, .int .u8 1, s_.1])]) (fun s_ w' => (w'.cell? ⟨gb298, 0, none⟩ = some (.slice A2_0 l2_0.length c2_0)) ∧ (Kd.R k35 35 w' w.heap.size (fun k_ => some k_ ≠ (s_.2.2.1 : Value).ownBlock) s_.1 y302) ∧ (Kd.S k60 60 w' w.heap.size (fun _ => True) s_.2.1 t307) ∧ (Kd.R k35 35 w' w.heap.size (fun k_ => some k_ ≠ (s_.1 : Value).ownBlock) s_.2.2.1 t311) ∧ (w'.heap[gb298]? = some (.cells #[.slice A2_0 l2_0.length c2_0] 24 (0, 0))) ∧ (w'.heap[gb299]? = some (.cells #[.int .i64 0, .string (⟨#[]⟩ : ByteArray), .slice none 0 0, .int .u8 0, .slice none 0 0] 29 (0, 0))) ∧ (w'.heap[s_.2.2.2]? = some (.cells #[.int .i64 0, .string (⟨#[]⟩ : ByteArray), .slice none 0 0, .int .u8 0, .slice none 0 0] 29 (0, 0))) ∧ (w.heap.size ≤ s_.2.2.2) ∧ (w.heap.size ≤ s_.2.2.2) ∧ (gb298 ≠ s_.2.2.2) ∧ (s_.2.2.2 ≠ gb298) ∧ (gb299 ≠ s_.2.2.2) ∧ (s_.2.2.2 ≠ gb299) ∧ (Below w.heap.size w w')) ?_ ?_; rotate_left
          ·
           intro hCont; refine two_ (i := 6) (j := 9) (Ni := some 43) (Nj := some 12) (b_ 11 127) (b_ 11 575) rfl rfl rfl rfl (two_of HT_.out (by kernel_rfl)) (by decide) (by decide) (fun K hK => ?_) (fun K hK => ?_)
           ·
            skip; refine Kd.R_make_step k35 _ 35 (by rfl) (N := 43) rfl 27 _ _ rfl (l2_0.length : Int) rfl rfl Try.underlying27 (.agg #[(.int .u8 0), (.int .i64 0), (.int .i64 0), (.int .i64 0), (.int .i64 0)]) 40 info35 rfl (by decide) (by omega) z35 (ok := fun _ => True) (okp := fun _ => True) (k35_mkM _ _ _ z35 ) (fun _ hk => hk) trivial od_ (Nat.le_trans (Nat.mul_le_mul_right _ (of_decide_eq_true (by first | (with_reducible assumption) | assumption) : (l2_0.length : Int).toNat ≤ 7036874417766)) (by omega)) (Below.refl _ _) (Nat.le_refl _) ?_
            intro v303 w30 ho31 hb hg_ hnew_; clear hg_ hnew_
            (first | rw [← Ny302.out] at ho31 | (simp only [Int.reduceToNat] at ho31; rw [← Ny302.out] at ho31))
            have HO304 := A_ (Kd.R_lower ho31 (below_size (hB_ HB.out))); replace BK298 := bs_ BK298 hb; replace BK299 := bs_ BK299 hb; replace HB := bB_ hb; clear hb ho31; obtain ⟨Ao32, co32, eo32⟩ := Kd.R_slice HO304.out
            (first | subst eo32 | (injection eo32 with f1_ f2_ f3_; have f4_ := f1_.symm; have f5_ := f3_.symm; clear f1_ f2_ f3_; subst f4_; subst f5_))
            refine hK.out _ _ (ck_ BK298 0) (fun hHeld => ?_); clear hK K; refine norm_ (a' := ?_) ?_ ?_; rotate_left
            ·
             show Act.put _ (some 43) _ = _; simp only [Act.put, sa_, s0_, s1_, i64_w, i32_w]
             rfl
            refine qX_ 7 44 (b_ 11 255) ?_; refine two_ (i := 8) (j := 9) (Ni := some 45) (Nj := some 12) (b_ 11 511) (b_ 11 767) rfl rfl rfl rfl (two_of HT_.out (by kernel_rfl)) (by decide) (by decide) (fun K hK => ?_) (fun K hK => ?_)
            ·
             skip; refine goes_ Try.func26 (by kernel_rfl) rfl #[.agg #[.int .i64 a0, .string a1, .slice A2_0 l2_0.length c2_0, .int .u8 1, .slice Ao32 y302.length co32]] (by rfl) rfl rfl ga_ ?_
             (with_reducible refine (run_Twin.calls kj4 a0 a1 _ _ l2_0 1 _ _ y302 t305 t306 t307 t310 t311 _ ?side1 ?side2 ?side3 ?side4 A24.out).mono ?_); (case side1 => exact cB_ HR2_0)
             (case side2 => exact HC2_0.out); (case side3 => exact cX_ (Kd.R_reads' HO304.out).2.2); (case side4 => exact (Kd.R_reads' HO304.out).2.1); rintro e w33 ⟨v308, v312, rfl, ho0, ho1, hb⟩; refine ⟨_, rfl, ?_⟩; have HO309 := A_ (Kd.S_lower ho0 (below_size (hB_ HB.out))); have HO313 := A_ (Kd.R_lower (Kd.R_new' ho1 (Kd.R_lt (rr_ HO304.out))) (below_size (hB_ HB.out))); replace HO304 := A_ (Kd.R_elder' (rr_ HO304.out) (Kd.R_base ho1) hb); replace BK298 := bs_ BK298 hb; replace BK299 := bs_ BK299 hb; replace HB := bB_ hb; (try clear hb); (try clear hk); (try clear ho0); (try clear ho1); refine hK.out _ _ (ck_ BK298 0) (fun hHeld => ?_); clear hK K; refine norm_ (a' := ?_) ?_ ?_; rotate_left
             ·
              show Act.put _ (some 45) _ = _; simp only [Act.put, sa_, s0_, s1_, i64_w, i32_w]
              rfl
             refine one_ (i := 9) (N := some 12) (b_ 11 1023) rfl rfl (one_of HT_.out (by kernel_rfl)) (by decide) (fun K hK => ?_); refine box_step ?hg (N := 12) ?hd (cs := #[.int .i64 0, .string (⟨#[]⟩ : ByteArray), .slice none 0 0, .int .u8 0, .slice none 0 0]) (t := 29) ?hr ?_; (case hd => rfl); (case hg => rfl); (case hr => first | (go_simp; done) | (go_simp; rfl)); intro gb314 hg w34 hbox hb; replace HO304 := A_ (Kd.R_below (rr_ HO304.out) hb); replace HO309 := A_ (Kd.S_below (rs_ HO309.out) hb); replace HO313 := A_ (Kd.R_below (rr_ HO313.out) hb); have BK314 := A_ (hbox); have GW314 := bz_ (hB_ HB.out) hg; have GE314 := bz_ (hB_ HB.out) hg; replace HB := bB_ hb; have NB298_314 := bn_ BK298 hg; have NB314_298 := bm_ BK298 hg; replace BK298 := bs_ BK298 hb; have NB299_314 := A_ ((by rw [hg]; exact Nat.ne_of_lt (blk_lt (g := gb299) (o := .cells #[.int .i64 0, .string (⟨#[]⟩ : ByteArray), .slice none 0 0, .int .u8 0, .slice none 0 0] 29 (0, 0)) (bY_ BK299)) : gb299 ≠ gb314)); have NB314_299 := A_ ((by rw [hg]; exact Nat.ne_of_gt (blk_lt (g := gb299) (o := .cells #[.int .i64 0, .string (⟨#[]⟩ : ByteArray), .slice none 0 0, .int .u8 0, .slice none 0 0] 29 (0, 0)) (bY_ BK299)) : gb314 ≠ gb299)); replace BK299 := bs_ BK299 hb; clear hb hbox hg; refine hK.out _ _ (ck_ BK298 0) (fun hHeld => ?_)
             clear hK K; refine norm_ (a' := ?_) ?_ ?_; rotate_left
             ·
              show Act.put _ (some 12) _ = _; simp only [Act.put, sa_, s0_, s1_, i64_w, i32_w]
              rfl
             exact norm_ (by simp only [putAll, Act.put, sa_, s0_, s1_]) (hCont (.slice Ao32 y302.length co32, v308, v312, gb314) _ ⟨hHeld, (rr_ (Kd.R_mono HO304.out (fun _ hk => hk.2))), (rs_ HO309.out), (rr_ (Kd.R_mono HO313.out (fun _ hk => hk.2))), (bY_ BK298), (bY_ BK299), (bY_ BK314), GW314.out, GE314.out, NB298_314.out, NB314_298.out, NB299_314.out, NB314_299.out, hb_⟩)
            ·
             skip; refine box_step ?hg (N := 12) ?hd (cs := #[.int .i64 0, .string (⟨#[]⟩ : ByteArray), .slice none 0 0, .int .u8 0, .slice none 0 0]) (t := 29) ?hr ?_; (case hd => rfl); (case hg => rfl); (case hr => first | (go_simp; done) | (go_simp; rfl))
             intro gb314 hg w33 hbox hb; replace HO304 := A_ (Kd.R_below (rr_ HO304.out) hb); have BK314 := A_ (hbox); have GW314 := bz_ (hB_ HB.out) hg; have GE314 := bz_ (hB_ HB.out) hg; replace HB := bB_ hb; have NB298_314 := bn_ BK298 hg; have NB314_298 := bm_ BK298 hg; replace BK298 := bs_ BK298 hb; have NB299_314 := A_ ((by rw [hg]; exact Nat.ne_of_lt (blk_lt (g := gb299) (o := .cells #[.int .i64 0, .string (⟨#[]⟩ : ByteArray), .slice none 0 0, .int .u8 0, .slice none 0 0] 29 (0, 0)) (bY_ BK299)) : gb299 ≠ gb314)); have NB314_299 := A_ ((by rw [hg]; exact Nat.ne_of_gt (blk_lt (g := gb299) (o := .cells #[.int .i64 0, .string (⟨#[]⟩ : ByteArray), .slice none 0 0, .int .u8 0, .slice none 0 0] 29 (0, 0)) (bY_ BK299)) : gb314 ≠ gb299)); replace BK299 := bs_ BK299 hb; clear hb hbox hg; refine hK.out _ _ (ck_ BK298 0) (fun hHeld => ?_); clear hK K; refine norm_ (a' := ?_) ?_ ?_; rotate_left
             ·
              show Act.put _ (some 12) _ = _; simp only [Act.put, sa_, s0_, s1_, i64_w, i32_w]
              rfl
             refine one_ (i := 8) (N := some 45) (b_ 11 1023) rfl rfl (one_of HT_.out (by kernel_rfl)) (by decide) (fun K hK => ?_); refine goes_ Try.func26 (by kernel_rfl) rfl #[.agg #[.int .i64 a0, .string a1, .slice A2_0 l2_0.length c2_0, .int .u8 1, .slice Ao32 y302.length co32]] (by rfl) rfl rfl ga_ ?_; (with_reducible refine (run_Twin.calls kj4 a0 a1 _ _ l2_0 1 _ _ y302 t305 t306 t307 t310 t311 _ ?side1 ?side2 ?side3 ?side4 A24.out).mono ?_); (case side1 => exact cB_ HR2_0); (case side2 => exact HC2_0.out); (case side3 => exact cX_ (Kd.R_reads' HO304.out).2.2); (case side4 => exact (Kd.R_reads' HO304.out).2.1); rintro e w34 ⟨v308, v312, rfl, ho0, ho1, hb⟩; refine ⟨_, rfl, ?_⟩; have HO309 := A_ (Kd.S_lower ho0 (below_size (hB_ HB.out))); have HO313 := A_ (Kd.R_lower (Kd.R_new' ho1 (Kd.R_lt (rr_ HO304.out))) (below_size (hB_ HB.out))); replace HO304 := A_ (Kd.R_elder' (rr_ HO304.out) (Kd.R_base ho1) hb); replace BK298 := bs_ BK298 hb; replace BK299 := bs_ BK299 hb
             replace BK314 := bs_ BK314 hb; replace HB := bB_ hb; (try clear hb); (try clear hk); (try clear ho0); (try clear ho1); refine hK.out _ _ (ck_ BK298 0) (fun hHeld => ?_); clear hK K; refine norm_ (a' := ?_) ?_ ?_; rotate_left
             ·
              show Act.put _ (some 45) _ = _; simp only [Act.put, sa_, s0_, s1_, i64_w, i32_w]
              rfl
             exact norm_ (by simp only [putAll, Act.put, sa_, s0_, s1_]) (hCont (.slice Ao32 y302.length co32, v308, v312, gb314) _ ⟨hHeld, (rr_ (Kd.R_mono HO304.out (fun _ hk => hk.2))), (rs_ HO309.out), (rr_ (Kd.R_mono HO313.out (fun _ hk => hk.2))), (bY_ BK298), (bY_ BK299), (bY_ BK314), GW314.out, GE314.out, NB298_314.out, NB314_298.out, NB299_314.out, NB314_299.out, hb_⟩)
           ·
            skip; refine box_step ?hg (N := 12) ?hd (cs := #[.int .i64 0, .string (⟨#[]⟩ : ByteArray), .slice none 0 0, .int .u8 0, .slice none 0 0]) (t := 29) ?hr ?_; (case hd => rfl); (case hg => rfl); (case hr => first | (go_simp; done) | (go_simp; rfl))
            intro gb314 hg w30 hbox hb; have BK314 := A_ (hbox); have GW314 := bz_ (hB_ HB.out) hg; have GE314 := bz_ (hB_ HB.out) hg; replace HB := bB_ hb; have NB298_314 := bn_ BK298 hg; have NB314_298 := bm_ BK298 hg; replace BK298 := bs_ BK298 hb; have NB299_314 := A_ ((by rw [hg]; exact Nat.ne_of_lt (blk_lt (g := gb299) (o := .cells #[.int .i64 0, .string (⟨#[]⟩ : ByteArray), .slice none 0 0, .int .u8 0, .slice none 0 0] 29 (0, 0)) (bY_ BK299)) : gb299 ≠ gb314)); have NB314_299 := A_ ((by rw [hg]; exact Nat.ne_of_gt (blk_lt (g := gb299) (o := .cells #[.int .i64 0, .string (⟨#[]⟩ : ByteArray), .slice none 0 0, .int .u8 0, .slice none 0 0] 29 (0, 0)) (bY_ BK299)) : gb314 ≠ gb299)); replace BK299 := bs_ BK299 hb; clear hb hbox hg; refine hK.out _ _ (ck_ BK298 0) (fun hHeld => ?_); clear hK K; refine norm_ (a' := ?_) ?_ ?_; rotate_left
            ·
             show Act.put _ (some 12) _ = _; simp only [Act.put, sa_, s0_, s1_, i64_w, i32_w]
             rfl
            refine one_ (i := 6) (N := some 43) (b_ 11 639) rfl rfl (one_of HT_.out (by kernel_rfl)) (by decide) (fun K hK => ?_); refine Kd.R_make_step k35 _ 35 (by rfl) (N := 43) rfl 27 _ _ rfl (l2_0.length : Int) rfl rfl Try.underlying27 (.agg #[(.int .u8 0), (.int .i64 0), (.int .i64 0), (.int .i64 0), (.int .i64 0)]) 40 info35 rfl (by decide) (by omega) z35 (ok := fun _ => True) (okp := fun _ => True) (k35_mkM _ _ _ z35 ) (fun _ hk => hk) trivial od_ (Nat.le_trans (Nat.mul_le_mul_right _ (of_decide_eq_true (by first | (with_reducible assumption) | assumption) : (l2_0.length : Int).toNat ≤ 7036874417766)) (by omega)) (Below.refl _ _) (Nat.le_refl _) ?_; intro v303 w31 ho32 hb hg_ hnew_; clear hg_ hnew_
            (first | rw [← Ny302.out] at ho32 | (simp only [Int.reduceToNat] at ho32; rw [← Ny302.out] at ho32))
            have HO304 := A_ (Kd.R_lower ho32 (below_size (hB_ HB.out))); replace BK298 := bs_ BK298 hb; replace BK299 := bs_ BK299 hb; replace BK314 := bs_ BK314 hb; replace HB := bB_ hb; clear hb ho32; obtain ⟨Ao33, co33, eo33⟩ := Kd.R_slice HO304.out
            (first | subst eo33 | (injection eo33 with f1_ f2_ f3_; have f4_ := f1_.symm; have f5_ := f3_.symm; clear f1_ f2_ f3_; subst f4_; subst f5_))
            refine hK.out _ _ (ck_ BK298 0) (fun hHeld => ?_); clear hK K; refine norm_ (a' := ?_) ?_ ?_; rotate_left
            ·
             show Act.put _ (some 43) _ = _; simp only [Act.put, sa_, s0_, s1_, i64_w, i32_w]
             rfl
            refine qX_ 7 44 (b_ 11 767) ?_; refine one_ (i := 8) (N := some 45) (b_ 11 1023) rfl rfl (one_of HT_.out (by kernel_rfl)) (by decide) (fun K hK => ?_); refine goes_ Try.func26 (by kernel_rfl) rfl #[.agg #[.int .i64 a0, .string a1, .slice A2_0 l2_0.length c2_0, .int .u8 1, .slice Ao33 y302.length co33]] (by rfl) rfl rfl ga_ ?_; (with_reducible refine (run_Twin.calls kj4 a0 a1 _ _ l2_0 1 _ _ y302 t305 t306 t307 t310 t311 _ ?side1 ?side2 ?side3 ?side4 A24.out).mono ?_); (case side1 => exact cB_ HR2_0); (case side2 => exact HC2_0.out); (case side3 => exact cX_ (Kd.R_reads' HO304.out).2.2); (case side4 => exact (Kd.R_reads' HO304.out).2.1); rintro e w34 ⟨v308, v312, rfl, ho0, ho1, hb⟩; refine ⟨_, rfl, ?_⟩; have HO309 := A_ (Kd.S_lower ho0 (below_size (hB_ HB.out))); have HO313 := A_ (Kd.R_lower (Kd.R_new' ho1 (Kd.R_lt (rr_ HO304.out))) (below_size (hB_ HB.out))); replace HO304 := A_ (Kd.R_elder' (rr_ HO304.out) (Kd.R_base ho1) hb); replace BK298 := bs_ BK298 hb; replace BK299 := bs_ BK299 hb
            replace BK314 := bs_ BK314 hb; replace HB := bB_ hb; (try clear hb); (try clear hk); (try clear ho0); (try clear ho1); refine hK.out _ _ (ck_ BK298 0) (fun hHeld => ?_); clear hK K; refine norm_ (a' := ?_) ?_ ?_; rotate_left
            ·
             show Act.put _ (some 45) _ = _; simp only [Act.put, sa_, s0_, s1_, i64_w, i32_w]
             rfl
            exact norm_ (by simp only [putAll, Act.put, sa_, s0_, s1_]) (hCont (.slice Ao33 y302.length co33, v308, v312, gb314) _ ⟨hHeld, (rr_ (Kd.R_mono HO304.out (fun _ hk => hk.2))), (rs_ HO309.out), (rr_ (Kd.R_mono HO313.out (fun _ hk => hk.2))), (bY_ BK298), (bY_ BK299), (bY_ BK314), GW314.out, GE314.out, NB298_314.out, NB314_298.out, NB299_314.out, NB314_299.out, hb_⟩)
          rintro ⟨v303, v308, v312, gb314⟩ w35 ⟨hS_, h0_, h1_, h2_, h3_, h4_, h5_, h6_, h7_, h8_, h9_, h10_, h11_, h12_⟩; (try dsimp only at h0_ h1_ h2_ h3_ h4_ h5_ h6_ h7_ h8_ h9_ h10_ h11_ h12_); clear BK298; clear BK299; clear HB; have HO304 := A_ h0_; have HO309 := A_ h1_; have HO313 := A_ h2_; have BK298 := A_ h3_; have BK299 := A_ h4_; have BK314 := A_ h5_; have GW314 := A_ h6_; have GE314 := A_ h7_; have NB298_314 := A_ h8_; have NB314_298 := A_ h9_; have NB299_314 := A_ h10_; have NB314_299 := A_ h11_; have HB := A_ h12_; clear h0_ h1_ h2_ h3_ h4_ h5_ h6_ h7_ h8_ h9_ h10_ h11_ h12_; have hHeld : w35.cell? ⟨gb298, 0, none⟩ = some (.slice A2_0 l2_0.length c2_0) := hS_; obtain ⟨Ao36, co36, eo36⟩ := Kd.R_slice HO304.out
          (first | subst eo36 | (injection eo36 with f1_ f2_ f3_; have f4_ := f1_.symm; have f5_ := f3_.symm; clear f1_ f2_ f3_; subst f4_; subst f5_))
          obtain ⟨Ao39, co39, eo39⟩ := Kd.S_slice HO309.out
          (first | subst eo39 | (injection eo39 with f1_ f2_ f3_; have f4_ := f1_.symm; have f5_ := f3_.symm; clear f1_ f2_ f3_; subst f4_; subst f5_))
          obtain ⟨Ao42, co42, eo42⟩ := Kd.R_slice HO313.out
          (first | subst eo42 | (injection eo42 with f1_ f2_ f3_; have f4_ := f1_.symm; have f5_ := f3_.symm; clear f1_ f2_ f3_; subst f4_; subst f5_))
          refine norm_ (a' := ?_) ?_ ?_; rotate_left
          ·
           simp only [putAll, Act.put, sa_, s0_, s1_]
           rfl
          refine one_ (i := 10) (N := none) (b_ 11 2047) rfl rfl (one_of HT_.out (by kernel_rfl)) (by decide) (fun K hK => ?_); have hs37 : w35.cell? ⟨gb314, 0, none⟩ = some (.int .i64 0) := ck_ BK314 0; have hfs37 := blk_frozen BK314.out 0; have hns37_0 := NB298_314.out; have hns37_1 := NB299_314.out; have hms37_0 := NB314_298.out; have hms37_1 := NB314_299.out; have hs38 : w35.cell? ⟨gb314, 1, none⟩ = some (.string (⟨#[]⟩ : ByteArray)) := ck_ BK314 1; have hfs38 := blk_frozen BK314.out 1; have hns38_0 := NB298_314.out; have hns38_1 := NB299_314.out; have hms38_0 := NB314_298.out; have hms38_1 := NB314_299.out; have hs40 : w35.cell? ⟨gb314, 2, none⟩ = some (.slice none 0 0) := ck_ BK314 2; have hfs40 := blk_frozen BK314.out 2; have hns40_0 := NB298_314.out; have hns40_1 := NB299_314.out; have hms40_0 := NB314_298.out; have hms40_1 := NB314_299.out; have hs41 : w35.cell? ⟨gb314, 3, none⟩ = some (.int .u8 0) := ck_ BK314 3; have hfs41 := blk_frozen BK314.out 3; have hns41_0 := NB298_314.out; have hns41_1 := NB299_314.out; have hms41_0 := NB314_298.out; have hms41_1 := NB314_299.out; have hs43 : w35.cell? ⟨gb314, 4, none⟩ = some (.slice none 0 0) := ck_ BK314 4; have hfs43 := blk_frozen BK314.out 4; have hns43_0 := NB298_314.out; have hns43_1 := NB299_314.out; have hms43_0 := NB314_298.out; have hms43_1 := NB314_299.out; refine skip_ (w1 := ?_) (by rfl) rfl ?_ ?_; rotate_left
          ·
           go_simp
           rfl
          refine hK.out _ _ ((cf5_ NB298_314.out hHeld)) (fun hHeld => ?_); clear hK K; refine done_ (done_of HT_.out (by kernel_rfl)) ?_; have n0_ : Aside0 (Kd.R k35 35 (((((w35.setCell ⟨gb314, 0, none⟩ (.int .i64 t305)).setCell ⟨gb314, 1, none⟩ (.string t306)).setCell ⟨gb314, 2, none⟩ (.slice Ao39 t307.length co39)).setCell ⟨gb314, 3, none⟩ (.int .u8 t310)).setCell ⟨gb314, 4, none⟩ (.slice Ao42 t311.length co42)) w.heap.size (fun k_ => some k_ ≠ (.slice Ao42 t311.length co42 : Value).ownBlock) (.slice Ao36 y302.length co36) y302) := ⟨rr_ (Kd.R_mono (rF5_ gb314 (Kd.R_types HO304.out BK314.out (by decide)) (fun _ hk => hk.2)) (fun _ hk => hk.1))⟩; have n1_ : Aside0 (Kd.S k60 60 (((((w35.setCell ⟨gb314, 0, none⟩ (.int .i64 t305)).setCell ⟨gb314, 1, none⟩ (.string t306)).setCell ⟨gb314, 2, none⟩ (.slice Ao39 t307.length co39)).setCell ⟨gb314, 3, none⟩ (.int .u8 t310)).setCell ⟨gb314, 4, none⟩ (.slice Ao42 t311.length co42)) w.heap.size (fun _ => True) (.slice Ao39 t307.length co39) t307) := ⟨rs_ (Kd.S_mono (sF5_ gb314 (Kd.S_types HO309.out BK314.out (by decide)) (fun _ hk => hk.2)) (fun _ hk => trivial))⟩; have n2_ : Aside0 (Kd.R k35 35 (((((w35.setCell ⟨gb314, 0, none⟩ (.int .i64 t305)).setCell ⟨gb314, 1, none⟩ (.string t306)).setCell ⟨gb314, 2, none⟩ (.slice Ao39 t307.length co39)).setCell ⟨gb314, 3, none⟩ (.int .u8 t310)).setCell ⟨gb314, 4, none⟩ (.slice Ao42 t311.length co42)) w.heap.size (fun k_ => some k_ ≠ (.slice Ao36 y302.length co36 : Value).ownBlock) (.slice Ao42 t311.length co42) t311) := ⟨rr_ (Kd.R_mono (rF5_ gb314 (Kd.R_types HO313.out BK314.out (by decide)) (fun _ hk => hk.2)) (fun _ hk => hk.1))⟩
          have n3_ : Aside0 ((((((w35.setCell ⟨gb314, 0, none⟩ (.int .i64 t305)).setCell ⟨gb314, 1, none⟩ (.string t306)).setCell ⟨gb314, 2, none⟩ (.slice Ao39 t307.length co39)).setCell ⟨gb314, 3, none⟩ (.int .u8 t310)).setCell ⟨gb314, 4, none⟩ (.slice Ao42 t311.length co42)).heap[gb298]? = some (.cells #[.slice A2_0 l2_0.length c2_0] 24 (0, 0))) := ⟨bZ_ BK298⟩; have n4_ : Aside0 ((((((w35.setCell ⟨gb314, 0, none⟩ (.int .i64 t305)).setCell ⟨gb314, 1, none⟩ (.string t306)).setCell ⟨gb314, 2, none⟩ (.slice Ao39 t307.length co39)).setCell ⟨gb314, 3, none⟩ (.int .u8 t310)).setCell ⟨gb314, 4, none⟩ (.slice Ao42 t311.length co42)).heap[gb299]? = some (.cells #[.int .i64 0, .string (⟨#[]⟩ : ByteArray), .slice none 0 0, .int .u8 0, .slice none 0 0] 29 (0, 0))) := ⟨bZ_ BK299⟩; have n5_ : Aside0 ((((((w35.setCell ⟨gb314, 0, none⟩ (.int .i64 t305)).setCell ⟨gb314, 1, none⟩ (.string t306)).setCell ⟨gb314, 2, none⟩ (.slice Ao39 t307.length co39)).setCell ⟨gb314, 3, none⟩ (.int .u8 t310)).setCell ⟨gb314, 4, none⟩ (.slice Ao42 t311.length co42)).heap[gb314]? = some (.cells #[.int .i64 t305, .string t306, .slice Ao39 t307.length co39, .int .u8 t310, .slice Ao42 t311.length co42] 29 (0, 0))) := ⟨bP_ BK314⟩
          have n6_ : Aside0 (Below w.heap.size w (((((w35.setCell ⟨gb314, 0, none⟩ (.int .i64 t305)).setCell ⟨gb314, 1, none⟩ (.string t306)).setCell ⟨gb314, 2, none⟩ (.slice Ao39 t307.length co39)).setCell ⟨gb314, 3, none⟩ (.int .u8 t310)).setCell ⟨gb314, 4, none⟩ (.slice Ao42 t311.length co42))) := ⟨hb_⟩; (try clear HO304); (try clear HO309); (try clear HO313); (try clear BK298); (try clear BK299); (try clear BK314); (try clear HB); generalize (((((w35.setCell ⟨gb314, 0, none⟩ (.int .i64 t305)).setCell ⟨gb314, 1, none⟩ (.string t306)).setCell ⟨gb314, 2, none⟩ (.slice Ao39 t307.length co39)).setCell ⟨gb314, 3, none⟩ (.int .u8 t310)).setCell ⟨gb314, 4, none⟩ (.slice Ao42 t311.length co42)) = w44 at n0_ n1_ n2_ n3_ n4_ n5_ n6_ ⊢; have HO304 := n0_; have HO309 := n1_; have HO313 := n2_; have BK298 := n3_; have BK299 := n4_; have BK314 := n5_; have HB := n6_; clear n0_ n1_ n2_ n3_ n4_ n5_ n6_; have hz47 := cz5_ BK314
          try go_wp2_with (first | ((with_reducible refine gc_ 27 rfl ?_); refine gL_ (some 48) Try.func27 #[.agg #[.int .i64 t305, .string t306, .slice Ao39 t307.length co39, .int .u8 t310, .slice Ao42 t311.length co42], .int .i64 a3] ?_; (with_reducible refine (run_open.calls kj4 t305 t306 _ _ t307 t310 (fun k_ => some k_ = (.slice Ao42 t311.length co42 : Value).ownBlock) (.slice Ao42 t311.length co42) t311 a3 t315 t316 w _ ?side1 ?side2 ?side3 ?side4 A25.out).mono ?_); (case side1 => repeat (first | (with_reducible first | exact HB.out | apply below_alloc | apply pw_below_drewN | apply below_drew1 | refine below_set ?_ GE298.out | refine below_set ?_ GE299.out | refine below_set ?_ GE314.out) | exact HB.out)); (case side2 => exact Kd.C_kept_own ((Kd.S_R (Kd.S_apart' HO309.out (Kd.R_typed HO313.out) (by decide)))) (fun k_ hk_ hs_ => (hk_.2) hs_)); (case side3 => exact (Kd.S_reads' HO309.out).2.1); (case side4 => exact Kd.R_tight rfl HO313.out); rintro e w48 ⟨rfl, hy0, hb, hkp⟩; refine ⟨_, rfl, ?_⟩; replace BK298 := A_ (blk_kept (bY_ BK298) hkp (fun hs_ => (fun e_ => (Kd.R_ne HO313.out BK298.out (by decide)) e_) hs_)); replace BK299 := A_ (blk_kept (bY_ BK299) hkp (fun hs_ => (fun e_ => (Kd.R_ne HO313.out BK299.out (by decide)) e_) hs_)); replace HO304 := A_ (Kd.R_mono (ok' := fun k_ => some k_ ≠ (.slice Ao42 t311.length co42 : Value).ownBlock) (Kd.R_keptB (HO304.out) hkp (fun k_ hk_ hs_ => (hk_) hs_)) (fun k_ hk_ => hk_.1)); replace HO309 := A_ (Kd.S_mono (ok' := fun k_ => True) (Kd.S_keptB ((Kd.S_apart' HO309.out (Kd.R_typed HO313.out) (by decide))) hkp (fun k_ hk_ hs_ => (hk_.2) hs_)) (fun k_ hk_ => trivial)); replace BK314 := A_ (blk_kept (bY_ BK314) hkp (fun hs_ => (fun e_ => (Kd.R_ne HO313.out BK314.out (by decide)) e_) hs_)); replace HO313 := A_ (Kd.R_reok rfl hy0 (fun k_ e_ => HO313.out.1 k_ e_)); replace HB := A_ (hb); (try clear hb); (try clear hkp); (try clear hy0); have hz49 := cz5_ BK314; have hz50 := cz5_ BK299; have hnp314299 := NB314_299.out; have hnq314299 := NB299_314.out))
          refine bodyPost_ret (results_ctt rfl _ _ gb299 29 #[.int .i64 t305, .string t306, .slice Ao39 t307.length co39, .int .u8 t310, .slice Ao42 t311.length co42] (0, 0) _ rfl (bP_ BK299) Try.underlying29 rfl (by kernel_rfl)) rfl ?_
          exact ⟨_, _, re_, rs_ (Kd.S_mono (sF5_ gb299 (Kd.S_types HO309.out BK299.out (by decide)) (fun _ hk => hk.2)) (fun _ hk => trivial)), rr_ (Kd.R_mono (rF5_ gb299 (Kd.R_types HO313.out BK299.out (by decide)) (fun _ hk => hk.2)) (fun _ hk => trivial)), hb_⟩
         ·
          rw [if_neg c23] at H; exact absurd H (by simp)
        ·
         rw [if_neg c22] at H; exact absurd H (by simp)
       ·
        replace c21 := Bool.eq_false_iff.mpr c21; subst c21; have H1 : (some (0, (⟨#[]⟩ : ByteArray), ([] : List (S60)), 0, ([] : List (S35)), 0, 2)) = some (r1, r2, r3, r4, r5, r6, r7) := by rw [if_neg (show ¬ (false = true) by decide)] at H; exact H
        clear H; have H := H1; clear H1; simp only [Option.some.injEq, Prod.mk.injEq] at H; obtain ⟨rfl, rfl, rfl, rfl, rfl, rfl, rfl⟩ := H; have hcz52_0 : wc.cell? ⟨gb298, 0, none⟩ = some (.slice A2_0 l2_0.length c2_0) := ck_ BK298 0; have hfz52_0 := blk_frozen BK298.out 0
        go_wp2_with (first | ((with_reducible refine gc_ 24 rfl ?_); refine gL_ (some 28) Try.func24 #[.agg #[.slice A2_0 l2_0.length c2_0]] ?_; (with_reducible refine (dag_Check.calls kj4 _ _ l2_0 t300 _ ?side1 ?side2 A18.out).mono ?_); (case side1 => exact cB_ HR2_0); (case side2 => exact HC2_0.out); rintro e w53 ⟨rfl, hb⟩; refine ⟨_, rfl, ?_⟩; replace BK298 := bs_ BK298 hb; replace BK299 := bs_ BK299 hb; replace HB := bB_ hb; (try clear hb); (try clear hk)) | ((with_reducible refine gc_ 25 rfl ?_); refine gL_ (some 34) Try.func25 #[.int .i64 a3] ?_; (with_reducible refine (run_ranked.calls a3 false _ A20.out).mono ?_); rintro e w' ⟨rfl, ⟨nd, rfl⟩⟩; refine ⟨_, rfl, ?_⟩; (try (rw [drewN_self w53]; generalize hq_ : World.drewN w53 _ = w53; have n0_ : Aside0 (w53.heap[gb298]? = some (.cells #[.slice A2_0 l2_0.length c2_0] 24 (0, 0))) := ⟨by rw [← hq_]; exact (bY_ BK298)⟩; have n1_ : Aside0 (w53.heap[gb299]? = some (.cells #[.int .i64 0, .string (⟨#[]⟩ : ByteArray), .slice none 0 0, .int .u8 0, .slice none 0 0] 29 (0, 0))) := ⟨by rw [← hq_]; exact (bY_ BK299)⟩; have n2_ : Aside0 (Below w.heap.size w w53) := ⟨by rw [← hq_]; exact hb_⟩; clear BK298 BK299 HB hq_; have BK298 := n0_; have BK299 := n1_; have HB := n2_; clear n0_ n1_ n2_)); have hz54 := cz5_ BK299))
        refine bodyPost_ret (results_ctt rfl _ _ gb299 29 #[.int .i64 0, .string (⟨#[]⟩ : ByteArray), .slice none 0 0, .int .u8 0, .slice none 0 0] (0, 0) _ rfl (bP_ BK299) Try.underlying29 rfl (by kernel_rfl)) rfl ?_
        exact ⟨_, _, re_, nl_, nl_, hb_⟩
      ·
       rw [if_neg c19] at H; have c19b0 : (t300 == 0) = false := beq_eq_false_iff_ne.mpr c19; have c19b1 : (t300 != 0) = true := bne_iff_ne.mpr c19; simp only [Option.some.injEq, Prod.mk.injEq] at H; obtain ⟨rfl, rfl, rfl, rfl, rfl, rfl, rfl⟩ := H; have hcz56_0 : wc.cell? ⟨gb298, 0, none⟩ = some (.slice A2_0 l2_0.length c2_0) := ck_ BK298 0; have hfz56_0 := blk_frozen BK298.out 0
       go_wp2_with (first | ((with_reducible refine gc_ 24 rfl ?_); refine gL_ (some 28) Try.func24 #[.agg #[.slice A2_0 l2_0.length c2_0]] ?_; (with_reducible refine (dag_Check.calls kj4 _ _ l2_0 t300 _ ?side1 ?side2 A18.out).mono ?_); (case side1 => exact cB_ HR2_0); (case side2 => exact HC2_0.out); rintro e w57 ⟨rfl, hb⟩; refine ⟨_, rfl, ?_⟩; replace BK298 := bs_ BK298 hb; replace BK299 := bs_ BK299 hb; replace HB := bB_ hb; (try clear hb); (try clear hk); have hz58 := cz5_ BK299))
       refine bodyPost_ret (results_ctt rfl _ _ gb299 29 #[.int .i64 0, .string (⟨#[]⟩ : ByteArray), .slice none 0 0, .int .u8 0, .slice none 0 0] (0, 0) _ rfl (bP_ BK299) Try.underlying29 rfl (by kernel_rfl)) rfl ?_
       exact ⟨_, _, re_, nl_, nl_, hb_⟩

end Go.Proofs.Ytbiphljdommacaa.R

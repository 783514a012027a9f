/- Contracts of Go functions and what they come to, over the translation of this seat: made by a program of this session (print2.py). -/
import Derived.Test.YtbiphljdommacaaS3
import Derived.Test.YtbiphljdommacaaSh
import Derived.Test.YtbiphljdommacaaRx6
import Derived.Test.YtbiphljdommacaaRx11
namespace Go.Proofs.Ytbiphljdommacaa.R
open Go.RowKit Go.Proofs.Ytbiphljdommacaa.S3 Go.Proofs.Ytbiphljdommacaa.Sh Go.Proofs.Ytbiphljdommacaa.Co Go.Proofs.Ytbiphljdommacaa.Ret Go.Proofs.Ytbiphljdommacaa.Plain Go.Proofs.YtbiphljdommacaaW.PrintWords Go.Proofs.YtbiphljdommacaaW.PrintLast Go.Proofs.YtbiphljdommacaaW.PrintMore Go.Proofs.Ytbiphljdommacaa.Ti
attribute [local go_sem] max2_int min2_int max_two min_two max_three min_three max_four min_four   -- for this text's walks alone
set_option linter.unusedVariables false
set_option linter.unusedSimpArgs false

/-! ### task_pause: function 70 -/
def task_pause.l0 : Nat → Int → Int → Int → Option (Int)
 | 0, _, _, _ => none
 | k + 1, x1, x5, x6 => if x6 < x1 then (task_pause.l0 k x1 (mn (wrap64 (2 * x5)) 1048576) (wrap64 (x6 + 1))) else (some x5)
def task_pause.f (k : Nat) (l0_0 : List Int) (a0_1 : Int) (a0_2 : Int) (a1 : Int) : Option (Int) := task_pause.l0 k a1 a0_2 1
set_option maxHeartbeats 8000000 in
set_option maxRecDepth 100000 in
theorem task_pause.calls (k : Nat) (A0_0 : Option Addr) (c0_0 : Nat) (l0_0 : List Int) (a0_1 : Int) (a0_2 : Int) (a1 : Int) (r : Int) (w : World) (hr0_0 : Kd.C (Kd.int .i64) w A0_0 l0_0.length l0_0) (hc0_0 : l0_0.length ≤ c0_0) (h : task_pause.f k l0_0 a0_1 a0_2 a1 = some r) :
  Calls Try.prog 70 #[.agg #[.slice A0_0 l0_0.length c0_0, .int .i64 a0_1, .int .i64 a0_2], .int .i64 a1] w fun e w' => e = .returned (.int .i64 r) ∧ Below w.heap.size w w' := by
 have hu60 := Try.underlying60; have HR0_0 := A_ hr0_0; have HC0_0 := A_ hc0_0; clear hr0_0 hc0_0; have HB := A_ (Below.refl w.heap.size w); have H : (task_pause.l0 k a1 a0_2 1) = some r := h; clear h; have H' := Aside0.mk H; clear H
 go_enter Try.func70, Try.ntmps70
 go_wp2_with (first | ((with_reducible refine gd_ 2 rfl ?_); refine by0_ 2 #[.slice A0_0 l0_0.length c0_0, .int .i64 a0_1, .int .i64 a0_2] 60 ?_; clear HB; intro gb162 w3 BK162 GE162 HB; have hz4 := cz3_ BK162))
 go_loopg [5, 6] k (fun kq v5 v6 w' => ∃ (x5_1 : Int) (x6_1 : Int), v5 = .int .i64 x5_1 ∧ v6 = .int .i64 x6_1 ∧ Aside0 (task_pause.l0 kq a1 x5_1 x6_1 = some r) ∧ Aside0 (kq ≤ k) ∧ Aside0 (w'.heap[gb162]? = some (.cells #[(.slice A0_0 l0_0.length c0_0), .int .i64 a0_1, .int .i64 a0_2] 60 (0, 0))) ∧ Aside0 (Below w.heap.size w w'))
 case atStart => exact ⟨(a0_2), (1), rl_, rl_, H', ⟨Nat.le_refl _⟩, ⟨bY_ BK162⟩, ⟨hb_⟩⟩
 case round =>
  clear H'; (try clear hz4); obtain ⟨x5_1, x6_1, rfl, rfl, HA, HK1, BK162, HB⟩ := hrel
  cases gk with
  | zero => exact absurd HA.out (by simp [task_pause.l0])
  | succ k1 =>
   have H := HA.out; clear HA; simp only [task_pause.l0] at H
   by_cases c5 : x6_1 < a1
   ·
    rw [if_pos c5] at H; have c5b0 : decide (x6_1 < a1) = true := decide_eq_true c5; clear c5; obtain ⟨ji6, hji6⟩ : ∃ j_ : Int, (mn (wrap64 (2 * x5_1)) 1048576) = j_ := ⟨_, rfl⟩; replace H : (task_pause.l0 k1 a1 ji6 (wrap64 (x6_1 + 1))) = some r := by first | (rw [hji6] at H; exact H) | (simp only [hji6] at H ⊢; exact H)
    have hji6_ : (if 1048576 < (wrap64 (2 * x5_1)) then 1048576 else (wrap64 (2 * x5_1))) = ji6 := hji6; have H' := Aside0.mk H; clear H
    go_wp2
    go_roundg k1
    case measure => have := HK1.out; omega
    case rel => exact ⟨(ji6), (wrap64 (x6_1 + 1)), (by first | rfl | (simp; done) | (simp only [← hji6] <;> (first | rfl | simp)) | (simp [*]; done)), rl_, H', ⟨by have := HK1.out; omega⟩, ⟨bY_ BK162⟩, ⟨hb_⟩⟩
   ·
    rw [if_neg c5] at H; have c5b0 : decide (x6_1 < a1) = false := decide_eq_false c5; clear c5; obtain rfl := Option.some.inj H
    go_wp2
    go_ret
    exact ⟨re_, hb_⟩

/-! ### task_fails: function 58 -/
def task_fails.f (k : Nat) (l0_0 : List Int) (a0_1 : Int) (a0_2 : Int) (a1_0 : Int) (a1_1 : Int) (a1_2 : Int) (a1_3 : Int) (a1_4 : Int) (a2 : Int) : Option (Int × Int × Int × Int × Int) := if a1_1 = a0_1 then (some (5, a1_1, 0, 0, 0)) else ((task_pause.f k l0_0 a0_1 a0_2 a1_1).bind fun t166 => (some (3, a1_1, mn (wrap64 (a2 + t166)) 1099511627776, 0, 0)))
def task_fails.T3 : Bool × List (List Nat × List Nat) := (true, [([], []), ([0], [0]), ([], []), ([], []), ([], []), ([4], [4]), ([3, 5], [3, 5]), ([2, 6], [2, 6]), ([7], [7]), ([1, 8], [1, 8]), ([9, 6, 0, 1, 2, 3, 4, 5, 6, 7, 8, 9], [9])])
def task_fails.B3 : List Nat := [0, 1, 0, 0, 0, 16, 56, 124, 252, 511, 1023]
theorem task_fails.tab3 : rtab .any (opsOf Try.f58 3) = task_fails.T3 := by kernel_rfl
theorem task_fails.bits3 : waitsOk task_fails.T3.2 task_fails.B3 = true := by kernel_rfl
set_option maxHeartbeats 8000000 in
set_option maxRecDepth 100000 in
theorem task_fails.calls (k : Nat) (A0_0 : Option Addr) (c0_0 : Nat) (l0_0 : List Int) (a0_1 : Int) (a0_2 : Int) (a1_0 : Int) (a1_1 : Int) (a1_2 : Int) (a1_3 : Int) (a1_4 : Int) (a2 : Int) (r1 : Int) (r2 : Int) (r3 : Int) (r4 : Int) (r5 : Int) (w : World) (hr0_0 : Kd.C (Kd.int .i64) w A0_0 l0_0.length l0_0) (hc0_0 : l0_0.length ≤ c0_0) (h : task_fails.f k l0_0 a0_1 a0_2 a1_0 a1_1 a1_2 a1_3 a1_4 a2 = some (r1, r2, r3, r4, r5)) :
  Calls Try.prog 58 #[.agg #[.slice A0_0 l0_0.length c0_0, .int .i64 a0_1, .int .i64 a0_2], .agg #[.int .u8 a1_0, .int .i64 a1_1, .int .i64 a1_2, .int .i64 a1_3, .int .i64 a1_4], .int .i64 a2] w fun e w' => e = .returned (.agg #[.int .u8 r1, .int .i64 r2, .int .i64 r3, .int .i64 r4, .int .i64 r5]) ∧ Below w.heap.size w w' := by
 have hu60 := Try.underlying60; have hu35 := Try.underlying35; have HR0_0 := A_ hr0_0; have HC0_0 := A_ hc0_0; clear hr0_0 hc0_0; have HB := A_ (Below.refl w.heap.size w); have H : (if a1_1 = a0_1 then (some (5, a1_1, 0, 0, 0)) else ((task_pause.f k l0_0 a0_1 a0_2 a1_1).bind fun t166 => (some (3, a1_1, mn (wrap64 (a2 + t166)) 1099511627776, 0, 0)))) = some (r1, r2, r3, r4, r5) := h; clear h
 by_cases c4 : a1_1 = a0_1
 ·
  rw [if_pos c4] at H; have c4b0 : (a1_1 == a0_1) = true := beq_iff_eq.mpr c4; have c4b1 : (a1_1 != a0_1) = false := bne_eq_false_iff_eq.mpr c4; clear c4; simp only [Option.some.injEq, Prod.mk.injEq] at H; obtain ⟨rfl, rfl, rfl, rfl, rfl⟩ := H
  go_enter Try.func58, Try.ntmps58
  go_wp2_with (first | ((with_reducible refine gd_ 3 rfl ?_); refine by0_ 3 #[.slice A0_0 l0_0.length c0_0, .int .i64 a0_1, .int .i64 a0_2] 60 ?_; clear HB; intro gb163 w5 BK163 GE163 HB; have GW163 := GE163) | ((with_reducible refine gd_ 4 rfl ?_); refine by1_ 4 #[.int .u8 a1_0, .int .i64 a1_1, .int .i64 a1_2, .int .i64 a1_3, .int .i64 a1_4] 35 BK163 ?_; clear HB BK163; intro gb164 w6 BK164 GE164 HB NB163_164 NB164_163 BK163; have GW164 := GE164) | ((with_reducible refine gd_ 6 rfl ?_); refine by2_ 6 #[.int .u8 0, .int .i64 0, .int .i64 0, .int .i64 0, .int .i64 0] 35 BK163 BK164 ?_; clear HB BK163 BK164; intro gb165 w7 BK165 GE165 HB NB163_165 NB165_163 BK163 NB164_165 NB165_164 BK164; have hnb8 := NB164_163.out; have hnc8 := NB163_164.out; have hnb9 := NB164_165.out; have hnc9 := NB165_164.out; have hz10 := cz5_ BK164; have hnb11 := NB163_165.out; have hnc11 := NB165_163.out; have hz12 := cz3_ BK163; have hz13 := cz5_ BK165))
  refine bodyPost_ret (results_cell_row rfl _ _ gb165 35 #[.int .u8 5, .int .i64 a1_1, .int .i64 0, .int .i64 0, .int .i64 0] (0, 0) _ rfl (bP_ BK165) Try.underlying35 rfl (by kernel_rfl)) rfl ?_
  exact ⟨re_, hb_⟩
 ·
  rw [if_neg c4] at H; have c4b0 : (a1_1 == a0_1) = false := beq_eq_false_iff_ne.mpr c4; have c4b1 : (a1_1 != a0_1) = true := bne_iff_ne.mpr c4; replace H := Option.bind_eq_some_iff.mp H; obtain ⟨t166, A140, H⟩ := H; replace H : (some (3, a1_1, mn (wrap64 (a2 + t166)) 1099511627776, 0, 0)) = some (r1, r2, r3, r4, r5) := H; have A14 := Aside0.mk A140; clear A140; obtain ⟨ji15, hji15⟩ : ∃ j_ : Int, (mn (wrap64 (a2 + t166)) 1099511627776) = j_ := ⟨_, rfl⟩; replace H : (some (3, a1_1, ji15, 0, 0)) = some (r1, r2, r3, r4, r5) := by first | (rw [hji15] at H; exact H) | (simp only [hji15] at H ⊢; exact H)
  (try rw [hji15] at A14); (try (have hji15h : ji15 ≤ 1099511627776 := by (rw [← hji15]; unfold mn; (repeat' split) <;> omega))); (try (have hji15g : ji15 ≤ 64 := by omega)); have hji15_ : (if 1099511627776 < (wrap64 (a2 + t166)) then 1099511627776 else (wrap64 (a2 + t166))) = ji15 := hji15; simp only [Option.some.injEq, Prod.mk.injEq] at H; obtain ⟨rfl, rfl, rfl, rfl, rfl⟩ := H
  go_enter Try.func58, Try.ntmps58
  try go_wp2_with (first | ((with_reducible refine gd_ 3 rfl ?_); refine by0_ 3 #[.slice A0_0 l0_0.length c0_0, .int .i64 a0_1, .int .i64 a0_2] 60 ?_; clear HB; intro gb163 w16 BK163 GE163 HB; have GW163 := GE163) | ((with_reducible refine gd_ 4 rfl ?_); refine by1_ 4 #[.int .u8 a1_0, .int .i64 a1_1, .int .i64 a1_2, .int .i64 a1_3, .int .i64 a1_4] 35 BK163 ?_; clear HB BK163; intro gb164 w17 BK164 GE164 HB NB163_164 NB164_163 BK163; have GW164 := GE164) | ((with_reducible refine gd_ 6 rfl ?_); refine by2_ 6 #[.int .u8 0, .int .i64 0, .int .i64 0, .int .i64 0, .int .i64 0] 35 BK163 BK164 ?_; clear HB BK163 BK164; intro gb165 w18 BK165 GE165 HB NB163_165 NB165_163 BK163 NB164_165 NB165_164 BK164; have hnb19 := NB164_163.out; have hnc19 := NB163_164.out; have hnb20 := NB164_165.out; have hnc20 := NB165_164.out; have hz21 := cz5_ BK164; have hnb22 := NB163_165.out; have hnc22 := NB165_163.out; have hz23 := cz3_ BK163))
  replace BK163 := A_ (blk_drew BK163.out); replace BK164 := A_ (blk_drew BK164.out); replace BK165 := A_ (blk_drew BK165.out); replace HB := A_ (below_drew1 HB.out); refine start_ (n := 11) (S := fun w' => w'.cell? ⟨gb164, 0, none⟩ = some (.int .u8 a1_0) ∧ w'.cell? ⟨gb164, 1, none⟩ = some (.int .i64 a1_1) ∧ w'.cell? ⟨gb164, 2, none⟩ = some (.int .i64 a1_2) ∧ w'.cell? ⟨gb164, 3, none⟩ = some (.int .i64 a1_3) ∧ w'.cell? ⟨gb164, 4, none⟩ = some (.int .i64 a1_4) ∧ w'.cell? ⟨gb163, 0, none⟩ = some (.slice A0_0 l0_0.length c0_0) ∧ w'.cell? ⟨gb163, 1, none⟩ = some (.int .i64 a0_1) ∧ w'.cell? ⟨gb163, 2, none⟩ = some (.int .i64 a0_2)) (ds := []) (b_ 11 0) (by kernel_rfl) rfl rfl ⟨ck_ BK164 0, ck_ BK164 1, ck_ BK164 2, ck_ BK164 3, ck_ BK164 4, ck_ BK163 0, ck_ BK163 1, ck_ BK163 2⟩ (fun hHeld => ?_); refine with_tabW task_fails.tab3 task_fails.bits3 (fun HT_ HW_ => ?_); generalize w18.drew = w24 at BK163 BK164 BK165 HB hHeld ⊢; refine qX_ 0 15 (b_ 11 1) ?_; refine qX_ 2 17 (b_ 11 5) ?_; refine qX_ 4 19 (b_ 11 21) ?_; refine uX_ 1 16 (b_ 11 23) hHeld ?_; refine uX_ 3 18 (b_ 11 31) hHeld ?_; refine uX_ 5 20 (b_ 11 63) hHeld ?_
  refine one_ (i := 6) (N := some 21) (b_ 11 127) rfl rfl (one_of HT_.out (by kernel_rfl)) (by decide) (fun K hK => ?_); refine goes_ Try.func70 (by kernel_rfl) rfl #[.agg #[.slice A0_0 l0_0.length c0_0, .int .i64 a0_1, .int .i64 a0_2], .int .i64 a1_1] (by rfl) rfl rfl ga_ ?_; (with_reducible refine (task_pause.calls k _ _ l0_0 a0_1 a0_2 a1_1 t166 _ ?side1 ?side2 A14.out).mono ?_); (case side1 => exact cB_ HR0_0); (case side2 => exact HC0_0.out); rintro e w25 ⟨rfl, hb⟩; refine ⟨_, rfl, ?_⟩; replace BK163 := bs_ BK163 hb; replace BK164 := bs_ BK164 hb; replace BK165 := bs_ BK165 hb; replace HB := bB_ hb; (try clear hb); refine hK.out _ _ ⟨ck_ BK164 0, ck_ BK164 1, ck_ BK164 2, ck_ BK164 3, ck_ BK164 4, ck_ BK163 0, ck_ BK163 1, ck_ BK163 2⟩ (fun hHeld => ?_); clear hK K; refine norm_ (a' := ?_) ?_ ?_; rotate_left
  ·
   show Act.put _ (some 21) _ = _; simp only [Act.put, sa_, s0_, s1_, i64_w, i32_w]
   rfl
  refine qX_ 7 22 (b_ 11 255) ?_; refine qX_ 8 23 (b_ 11 511) ?_; refine qX_ 9 24 (b_ 11 1023) ?_; refine one_ (i := 10) (N := none) (b_ 11 2047) rfl rfl (one_of HT_.out (by kernel_rfl)) (by decide) (fun K hK => ?_); have hs26 : w25.cell? ⟨gb165, 0, none⟩ = some (.int .u8 0) := ck_ BK165 0; have hfs26 := blk_frozen BK165.out 0; have hns26_0 := NB163_165.out; have hns26_1 := NB164_165.out; have hms26_0 := NB165_163.out; have hms26_1 := NB165_164.out; have hs27 : w25.cell? ⟨gb165, 1, none⟩ = some (.int .i64 0) := ck_ BK165 1; have hfs27 := blk_frozen BK165.out 1; have hns27_0 := NB163_165.out; have hns27_1 := NB164_165.out; have hms27_0 := NB165_163.out; have hms27_1 := NB165_164.out; have hs28 : w25.cell? ⟨gb165, 2, none⟩ = some (.int .i64 0) := ck_ BK165 2; have hfs28 := blk_frozen BK165.out 2; have hns28_0 := NB163_165.out; have hns28_1 := NB164_165.out; have hms28_0 := NB165_163.out; have hms28_1 := NB165_164.out; have hs29 : w25.cell? ⟨gb165, 3, none⟩ = some (.int .i64 0) := ck_ BK165 3; have hfs29 := blk_frozen BK165.out 3; have hns29_0 := NB163_165.out; have hns29_1 := NB164_165.out; have hms29_0 := NB165_163.out; have hms29_1 := NB165_164.out; have hs30 : w25.cell? ⟨gb165, 4, none⟩ = some (.int .i64 0) := ck_ BK165 4; have hfs30 := blk_frozen BK165.out 4; have hns30_0 := NB163_165.out; have hns30_1 := NB164_165.out; have hms30_0 := NB165_163.out; have hms30_1 := NB165_164.out
  refine skip_ (w1 := ?_) (by rfl) rfl ?_ ?_; rotate_left
  ·
   go_simp
   rfl
  refine hK.out _ _ ⟨(cf5_ NB164_165.out hHeld.1), (cf5_ NB164_165.out hHeld.2.1), (cf5_ NB164_165.out hHeld.2.2.1), (cf5_ NB164_165.out hHeld.2.2.2.1), (cf5_ NB164_165.out hHeld.2.2.2.2.1), (cf5_ NB163_165.out hHeld.2.2.2.2.2.1), (cf5_ NB163_165.out hHeld.2.2.2.2.2.2.1), (cf5_ NB163_165.out hHeld.2.2.2.2.2.2.2)⟩ (fun hHeld => ?_)
  clear hK K; refine done_ (done_of HT_.out (by kernel_rfl)) ?_
  try go_wp2
  refine bodyPost_ret (results_cell_row rfl _ _ gb165 35 #[.int .u8 3, .int .i64 a1_1, .int .i64 ji15, .int .i64 0, .int .i64 0] (0, 0) _ rfl (bP_ BK165) Try.underlying35 rfl (by kernel_rfl)) rfl ?_
  exact ⟨by first | rfl | (simp [errW_none, errW_some] <;> rfl) | (simp only [← hji15]; first | rfl | (simp [errW_none, errW_some] <;> rfl)) | (simp [*, errW_none, errW_some] <;> rfl) | exact ret_ie _ | (simp [*, errW_none, errW_some, bne]; done), hb_⟩

/-! ### task_Fail: function 34 -/
def task_Fail.f (k : Nat) (l0_0 : List Int) (a0_1 : Int) (a0_2 : Int) (a1_0 : Int) (a1_1 : Int) (a1_2 : Int) (a1_3 : Int) (a1_4 : Int) (a2 : Int) (a3 : Int) : Option (Int × Int × Int × Int × Int × Int) := (task_moment.f a3).bind fun t170 => ((task_held.f k l0_0 a0_1 a0_2 a1_0 a1_1 a1_2 a1_3 a1_4 t170 a2).bind fun t171 => (if t171 = 0 then ((task_fails.f k l0_0 a0_1 a0_2 a1_0 a1_1 a1_2 a1_3 a1_4 a3).bind fun bt172 => (some (bt172.1, bt172.2.1, bt172.2.2.1, bt172.2.2.2.1, bt172.2.2.2.2, 0))) else (some (0, 0, 0, 0, 0, t171))))
set_option maxHeartbeats 8000000 in
set_option maxRecDepth 100000 in
theorem task_Fail.calls (k : Nat) (A0_0 : Option Addr) (c0_0 : Nat) (l0_0 : List Int) (a0_1 : Int) (a0_2 : Int) (a1_0 : Int) (a1_1 : Int) (a1_2 : Int) (a1_3 : Int) (a1_4 : Int) (a2 : Int) (a3 : Int) (r1 : Int) (r2 : Int) (r3 : Int) (r4 : Int) (r5 : Int) (r6 : Int) (w : World) (hr0_0 : Kd.C (Kd.int .i64) w A0_0 l0_0.length l0_0) (hc0_0 : l0_0.length ≤ c0_0) (h : task_Fail.f k l0_0 a0_1 a0_2 a1_0 a1_1 a1_2 a1_3 a1_4 a2 a3 = some (r1, r2, r3, r4, r5, r6)) :
  Calls Try.prog 34 #[.agg #[.slice A0_0 l0_0.length c0_0, .int .i64 a0_1, .int .i64 a0_2], .agg #[.int .u8 a1_0, .int .i64 a1_1, .int .i64 a1_2, .int .i64 a1_3, .int .i64 a1_4], .int .i64 a2, .int .i64 a3] w fun e w' => e = .returned (.tuple #[.agg #[.int .u8 r1, .int .i64 r2, .int .i64 r3, .int .i64 r4, .int .i64 r5], .int .i64 r6]) ∧ Below w.heap.size w w' := by
 have hu60 := Try.underlying60; have hu35 := Try.underlying35; have HR0_0 := A_ hr0_0; have HC0_0 := A_ hc0_0; clear hr0_0 hc0_0; have HB := A_ (Below.refl w.heap.size w); have H : ((task_moment.f a3).bind fun t170 => ((task_held.f k l0_0 a0_1 a0_2 a1_0 a1_1 a1_2 a1_3 a1_4 t170 a2).bind fun t171 => (if t171 = 0 then ((task_fails.f k l0_0 a0_1 a0_2 a1_0 a1_1 a1_2 a1_3 a1_4 a3).bind fun bt172 => (some (bt172.1, bt172.2.1, bt172.2.2.1, bt172.2.2.2.1, bt172.2.2.2.2, 0))) else (some (0, 0, 0, 0, 0, t171))))) = some (r1, r2, r3, r4, r5, r6) := h; clear h; replace H := Option.bind_eq_some_iff.mp H; obtain ⟨t170, A50, H⟩ := H
 try dsimp only at H
 have A5 := Aside0.mk A50; clear A50; replace H := Option.bind_eq_some_iff.mp H; obtain ⟨t171, A60, H⟩ := H
 try dsimp only at H
 have A6 := Aside0.mk A60; clear A60
 by_cases c7 : t171 = 0
 ·
  rw [if_pos c7] at H; have c7b0 : (t171 == 0) = true := beq_iff_eq.mpr c7; have c7b1 : (t171 != 0) = false := bne_eq_false_iff_eq.mpr c7; clear c7; replace H := Option.bind_eq_some_iff.mp H; obtain ⟨⟨t172, t173, t174, t175, t176⟩, A80, H⟩ := H; replace H : (some (t172, t173, t174, t175, t176, 0)) = some (r1, r2, r3, r4, r5, r6) := H; have A8 := Aside0.mk A80; clear A80; simp only [Option.some.injEq, Prod.mk.injEq] at H; obtain ⟨rfl, rfl, rfl, rfl, rfl, rfl⟩ := H
  go_enter Try.func34, Try.ntmps34
  try go_wp2_with (first | ((with_reducible refine gd_ 4 rfl ?_); refine by0_ 4 #[.slice A0_0 l0_0.length c0_0, .int .i64 a0_1, .int .i64 a0_2] 60 ?_; clear HB; intro gb167 w9 BK167 GE167 HB; have GW167 := GE167) | ((with_reducible refine gd_ 5 rfl ?_); refine by1_ 5 #[.int .u8 a1_0, .int .i64 a1_1, .int .i64 a1_2, .int .i64 a1_3, .int .i64 a1_4] 35 BK167 ?_; clear HB BK167; intro gb168 w10 BK168 GE168 HB NB167_168 NB168_167 BK167; have GW168 := GE168) | ((with_reducible refine gd_ 8 rfl ?_); refine by2_ 8 #[.int .u8 0, .int .i64 0, .int .i64 0, .int .i64 0, .int .i64 0] 35 BK167 BK168 ?_; clear HB BK167 BK168; intro gb169 w11 BK169 GE169 HB NB167_169 NB169_167 BK167 NB168_169 NB169_168 BK168; have GW169 := GE169))
  replace BK167 := A_ (blk_drew BK167.out); replace BK168 := A_ (blk_drew BK168.out); replace BK169 := A_ (blk_drew BK169.out); replace HB := A_ (below_drew1 HB.out); refine start_ (n := 7) (S := fun w' => w'.cell? ⟨gb167, 0, none⟩ = some (.slice A0_0 l0_0.length c0_0) ∧ w'.cell? ⟨gb167, 1, none⟩ = some (.int .i64 a0_1) ∧ w'.cell? ⟨gb167, 2, none⟩ = some (.int .i64 a0_2) ∧ w'.cell? ⟨gb168, 0, none⟩ = some (.int .u8 a1_0) ∧ w'.cell? ⟨gb168, 1, none⟩ = some (.int .i64 a1_1) ∧ w'.cell? ⟨gb168, 2, none⟩ = some (.int .i64 a1_2) ∧ w'.cell? ⟨gb168, 3, none⟩ = some (.int .i64 a1_3) ∧ w'.cell? ⟨gb168, 4, none⟩ = some (.int .i64 a1_4)) (ds := []) (b_ 7 0) (by kernel_rfl) rfl rfl ⟨ck_ BK167 0, ck_ BK167 1, ck_ BK167 2, ck_ BK168 0, ck_ BK168 1, ck_ BK168 2, ck_ BK168 3, ck_ BK168 4⟩ (fun hHeld => ?_); generalize w11.drew = w12 at BK167 BK168 BK169 HB hHeld ⊢; refine pure_ (i := 2) (N := some 13) (v := ?_) (a' := ?_) (b_ 7 4) rfl rfl (by kernel_rfl) (fun _ _ _ h => h) (Or.inl ⟨by rfl, ?_⟩) ?_ ?_; rotate_left
  ·
   intro w'; go_simp; (with_reducible rfl)
  rotate_left
  ·
   simp only [Act.put, sa_, s0_, s1_, i64_w, i32_w]
   rfl
  refine pure_ (i := 4) (N := some 15) (v := ?_) (a' := ?_) (b_ 7 20) rfl rfl (by kernel_rfl) (fun _ _ _ h => h) (Or.inl ⟨by rfl, ?_⟩) ?_ ?_; rotate_left
  ·
   intro w'; go_simp; (with_reducible rfl)
  rotate_left
  ·
   simp only [Act.put, sa_, s0_, s1_, i64_w, i32_w]
   rfl
  refine take_ (i := 0) (N := some 11) (v := ?_) (a' := ?_) (b_ 7 21) rfl rfl (by kernel_rfl) (fun _ _ _ h => h) (Or.inl ⟨by rfl, ?_⟩) hHeld ?_ ?_; rotate_left
  ·
   rintro w' ⟨s0, s1, s2, s3, s4, s5, s6, s7⟩; go_simp; (with_reducible rfl)
  rotate_left
  ·
   simp only [Act.put, sa_, s0_, s1_, i64_w, i32_w]
   rfl
  refine take_ (i := 1) (N := some 12) (v := ?_) (a' := ?_) (b_ 7 23) rfl rfl (by kernel_rfl) (fun _ _ _ h => h) (Or.inl ⟨by rfl, ?_⟩) hHeld ?_ ?_; rotate_left
  ·
   rintro w' ⟨s0, s1, s2, s3, s4, s5, s6, s7⟩; go_simp; (with_reducible rfl)
  rotate_left
  ·
   simp only [Act.put, sa_, s0_, s1_, i64_w, i32_w]
   rfl
  refine one_ (i := 3) (N := some 14) (b_ 7 31) rfl rfl (by kernel_rfl) (by decide) (fun K hK => ?_); refine goes_ Try.func56 (by kernel_rfl) rfl #[.int .i64 a3] (by rfl) rfl rfl ga_ ?_; (with_reducible refine (task_moment.calls a3 t170 _ A5.out).mono ?_); rintro e w' ⟨rfl, ⟨nd, rfl⟩⟩; refine ⟨_, rfl, ?_⟩; refine hK.out _ _ ⟨ck_ BK167 0, ck_ BK167 1, ck_ BK167 2, ck_ BK168 0, ck_ BK168 1, ck_ BK168 2, ck_ BK168 3, ck_ BK168 4⟩ (fun hHeld => ?_); clear hK K; refine norm_ (a' := ?_) ?_ ?_; rotate_left
  ·
   show Act.put _ (some 14) _ = _; simp only [Act.put, sa_, s0_, s1_, i64_w, i32_w]
   rfl
  refine one_ (i := 5) (N := some 16) (b_ 7 63) rfl rfl (by kernel_rfl) (by decide) (fun K hK => ?_); refine goes_ Try.func57 (by kernel_rfl) rfl #[.agg #[.slice A0_0 l0_0.length c0_0, .int .i64 a0_1, .int .i64 a0_2], .agg #[.int .u8 a1_0, .int .i64 a1_1, .int .i64 a1_2, .int .i64 a1_3, .int .i64 a1_4], .bool t170, .int .i64 a2] (by rfl) rfl rfl ga_ ?_; (with_reducible refine (task_held.calls k _ _ l0_0 a0_1 a0_2 a1_0 a1_1 a1_2 a1_3 a1_4 t170 a2 t171 _ ?side1 ?side2 A6.out).mono ?_); (case side1 => exact cX_ (Kd.C_below HR0_0.out hb_)); (case side2 => exact HC0_0.out); rintro e w13 ⟨rfl, hb⟩; refine ⟨_, rfl, ?_⟩; replace BK167 := bs_ BK167 hb; replace BK168 := bs_ BK168 hb; replace BK169 := bs_ BK169 hb; replace HB := bB_ hb; (try clear hb); refine hK.out _ _ ⟨ck_ BK167 0, ck_ BK167 1, ck_ BK167 2, ck_ BK168 0, ck_ BK168 1, ck_ BK168 2, ck_ BK168 3, ck_ BK168 4⟩ (fun hHeld => ?_); clear hK K; refine norm_ (a' := ?_) ?_ ?_
  rotate_left
  ·
   show Act.put _ (some 16) _ = _; simp only [Act.put, sa_, s0_, s1_, i64_w, i32_w]
   rfl
  refine pure_ (i := 6) (N := some 10) (v := ?_) (a' := ?_) (b_ 7 127) rfl rfl (by kernel_rfl) (fun _ _ _ h => h) (Or.inl ⟨by rfl, ?_⟩) ?_ ?_; rotate_left
  ·
   intro w'; go_simp; (with_reducible rfl)
  rotate_left
  ·
   simp only [Act.put, sa_, s0_, s1_, i64_w, i32_w]
   rfl
  refine done_ (by kernel_rfl) ?_; have hnb14 := NB167_168.out; have hnc14 := NB168_167.out; have hz16 := cz3_ BK167; have hz18 := cz5_ BK168
  try go_wp2_with (first | ((with_reducible refine gc_ 58 rfl ?_); refine gL_ (some 24) Try.func58 #[.agg #[.slice A0_0 l0_0.length c0_0, .int .i64 a0_1, .int .i64 a0_2], .agg #[.int .u8 a1_0, .int .i64 a1_1, .int .i64 a1_2, .int .i64 a1_3, .int .i64 a1_4], .int .i64 a3] ?_; (with_reducible refine (task_fails.calls k _ _ l0_0 a0_1 a0_2 a1_0 a1_1 a1_2 a1_3 a1_4 a3 t172 t173 t174 t175 t176 _ ?side1 ?side2 A8.out).mono ?_); (case side1 => exact cB_ HR0_0); (case side2 => exact HC0_0.out); rintro e w19 ⟨rfl, hb⟩; refine ⟨_, rfl, ?_⟩; replace BK167 := bs_ BK167 hb; replace BK168 := bs_ BK168 hb; replace BK169 := bs_ BK169 hb; replace HB := bB_ hb; (try clear hb); have hz20 := cz5_ BK169))
  refine bodyPost_ret (results_ct rfl _ _ gb169 35 #[.int .u8 t172, .int .i64 t173, .int .i64 t174, .int .i64 t175, .int .i64 t176] (0, 0) _ rfl (bP_ BK169) Try.underlying35 rfl (by kernel_rfl)) rfl ?_
  exact ⟨re_, hb_⟩
 ·
  rw [if_neg c7] at H; have c7b0 : (t171 == 0) = false := beq_eq_false_iff_ne.mpr c7; have c7b1 : (t171 != 0) = true := bne_iff_ne.mpr c7; simp only [Option.some.injEq, Prod.mk.injEq] at H; obtain ⟨rfl, rfl, rfl, rfl, rfl, rfl⟩ := H
  go_enter Try.func34, Try.ntmps34
  try go_wp2_with (first | ((with_reducible refine gd_ 4 rfl ?_); refine by0_ 4 #[.slice A0_0 l0_0.length c0_0, .int .i64 a0_1, .int .i64 a0_2] 60 ?_; clear HB; intro gb167 w21 BK167 GE167 HB; have GW167 := GE167) | ((with_reducible refine gd_ 5 rfl ?_); refine by1_ 5 #[.int .u8 a1_0, .int .i64 a1_1, .int .i64 a1_2, .int .i64 a1_3, .int .i64 a1_4] 35 BK167 ?_; clear HB BK167; intro gb168 w22 BK168 GE168 HB NB167_168 NB168_167 BK167; have GW168 := GE168) | ((with_reducible refine gd_ 8 rfl ?_); refine by2_ 8 #[.int .u8 0, .int .i64 0, .int .i64 0, .int .i64 0, .int .i64 0] 35 BK167 BK168 ?_; clear HB BK167 BK168; intro gb169 w23 BK169 GE169 HB NB167_169 NB169_167 BK167 NB168_169 NB169_168 BK168; have GW169 := GE169))
  replace BK167 := A_ (blk_drew BK167.out); replace BK168 := A_ (blk_drew BK168.out); replace BK169 := A_ (blk_drew BK169.out); replace HB := A_ (below_drew1 HB.out); refine start_ (n := 7) (S := fun w' => w'.cell? ⟨gb167, 0, none⟩ = some (.slice A0_0 l0_0.length c0_0) ∧ w'.cell? ⟨gb167, 1, none⟩ = some (.int .i64 a0_1) ∧ w'.cell? ⟨gb167, 2, none⟩ = some (.int .i64 a0_2) ∧ w'.cell? ⟨gb168, 0, none⟩ = some (.int .u8 a1_0) ∧ w'.cell? ⟨gb168, 1, none⟩ = some (.int .i64 a1_1) ∧ w'.cell? ⟨gb168, 2, none⟩ = some (.int .i64 a1_2) ∧ w'.cell? ⟨gb168, 3, none⟩ = some (.int .i64 a1_3) ∧ w'.cell? ⟨gb168, 4, none⟩ = some (.int .i64 a1_4)) (ds := []) (b_ 7 0) (by kernel_rfl) rfl rfl ⟨ck_ BK167 0, ck_ BK167 1, ck_ BK167 2, ck_ BK168 0, ck_ BK168 1, ck_ BK168 2, ck_ BK168 3, ck_ BK168 4⟩ (fun hHeld => ?_); generalize w23.drew = w24 at BK167 BK168 BK169 HB hHeld ⊢; refine pure_ (i := 2) (N := some 13) (v := ?_) (a' := ?_) (b_ 7 4) rfl rfl (by kernel_rfl) (fun _ _ _ h => h) (Or.inl ⟨by rfl, ?_⟩) ?_ ?_; rotate_left
  ·
   intro w'; go_simp; (with_reducible rfl)
  rotate_left
  ·
   simp only [Act.put, sa_, s0_, s1_, i64_w, i32_w]
   rfl
  refine pure_ (i := 4) (N := some 15) (v := ?_) (a' := ?_) (b_ 7 20) rfl rfl (by kernel_rfl) (fun _ _ _ h => h) (Or.inl ⟨by rfl, ?_⟩) ?_ ?_; rotate_left
  ·
   intro w'; go_simp; (with_reducible rfl)
  rotate_left
  ·
   simp only [Act.put, sa_, s0_, s1_, i64_w, i32_w]
   rfl
  refine take_ (i := 0) (N := some 11) (v := ?_) (a' := ?_) (b_ 7 21) rfl rfl (by kernel_rfl) (fun _ _ _ h => h) (Or.inl ⟨by rfl, ?_⟩) hHeld ?_ ?_; rotate_left
  ·
   rintro w' ⟨s0, s1, s2, s3, s4, s5, s6, s7⟩; go_simp; (with_reducible rfl)
  rotate_left
  ·
   simp only [Act.put, sa_, s0_, s1_, i64_w, i32_w]
   rfl
  refine take_ (i := 1) (N := some 12) (v := ?_) (a' := ?_) (b_ 7 23) rfl rfl (by kernel_rfl) (fun _ _ _ h => h) (Or.inl ⟨by rfl, ?_⟩) hHeld ?_ ?_; rotate_left
  ·
   rintro w' ⟨s0, s1, s2, s3, s4, s5, s6, s7⟩; go_simp; (with_reducible rfl)
  rotate_left
  ·
   simp only [Act.put, sa_, s0_, s1_, i64_w, i32_w]
   rfl
  refine one_ (i := 3) (N := some 14) (b_ 7 31) rfl rfl (by kernel_rfl) (by decide) (fun K hK => ?_); refine goes_ Try.func56 (by kernel_rfl) rfl #[.int .i64 a3] (by rfl) rfl rfl ga_ ?_; (with_reducible refine (task_moment.calls a3 t170 _ A5.out).mono ?_); rintro e w' ⟨rfl, ⟨nd, rfl⟩⟩; refine ⟨_, rfl, ?_⟩; refine hK.out _ _ ⟨ck_ BK167 0, ck_ BK167 1, ck_ BK167 2, ck_ BK168 0, ck_ BK168 1, ck_ BK168 2, ck_ BK168 3, ck_ BK168 4⟩ (fun hHeld => ?_); clear hK K; refine norm_ (a' := ?_) ?_ ?_; rotate_left
  ·
   show Act.put _ (some 14) _ = _; simp only [Act.put, sa_, s0_, s1_, i64_w, i32_w]
   rfl
  refine one_ (i := 5) (N := some 16) (b_ 7 63) rfl rfl (by kernel_rfl) (by decide) (fun K hK => ?_); refine goes_ Try.func57 (by kernel_rfl) rfl #[.agg #[.slice A0_0 l0_0.length c0_0, .int .i64 a0_1, .int .i64 a0_2], .agg #[.int .u8 a1_0, .int .i64 a1_1, .int .i64 a1_2, .int .i64 a1_3, .int .i64 a1_4], .bool t170, .int .i64 a2] (by rfl) rfl rfl ga_ ?_; (with_reducible refine (task_held.calls k _ _ l0_0 a0_1 a0_2 a1_0 a1_1 a1_2 a1_3 a1_4 t170 a2 t171 _ ?side1 ?side2 A6.out).mono ?_); (case side1 => exact cX_ (Kd.C_below HR0_0.out hb_)); (case side2 => exact HC0_0.out); rintro e w25 ⟨rfl, hb⟩; refine ⟨_, rfl, ?_⟩; replace BK167 := bs_ BK167 hb; replace BK168 := bs_ BK168 hb; replace BK169 := bs_ BK169 hb; replace HB := bB_ hb; (try clear hb); refine hK.out _ _ ⟨ck_ BK167 0, ck_ BK167 1, ck_ BK167 2, ck_ BK168 0, ck_ BK168 1, ck_ BK168 2, ck_ BK168 3, ck_ BK168 4⟩ (fun hHeld => ?_); clear hK K; refine norm_ (a' := ?_) ?_ ?_
  rotate_left
  ·
   show Act.put _ (some 16) _ = _; simp only [Act.put, sa_, s0_, s1_, i64_w, i32_w]
   rfl
  refine pure_ (i := 6) (N := some 10) (v := ?_) (a' := ?_) (b_ 7 127) rfl rfl (by kernel_rfl) (fun _ _ _ h => h) (Or.inl ⟨by rfl, ?_⟩) ?_ ?_; rotate_left
  ·
   intro w'; go_simp; (with_reducible rfl)
  rotate_left
  ·
   simp only [Act.put, sa_, s0_, s1_, i64_w, i32_w]
   rfl
  refine done_ (by kernel_rfl) ?_; have hz28 := cz5_ BK169
  try go_wp2
  refine bodyPost_ret (results_ct rfl _ _ gb169 35 #[.int .u8 0, .int .i64 0, .int .i64 0, .int .i64 0, .int .i64 0] (0, 0) _ rfl (bP_ BK169) Try.underlying35 rfl (by kernel_rfl)) rfl ?_
  exact ⟨re_, hb_⟩

end Go.Proofs.Ytbiphljdommacaa.R

/- Contracts of Go functions and what they come to, over the translation of this seat: made by a program of this session (print2.py). -/
import Derived.Test.YtbiphljdommacaaS3
import Derived.Test.YtbiphljdommacaaSh
import Derived.Test.YtbiphljdommacaaRx6
import Derived.Test.YtbiphljdommacaaRx13
import Derived.Test.YtbiphljdommacaaRx11
namespace Go.Proofs.Ytbiphljdommacaa.R
open Go.RowKit Go.Proofs.Ytbiphljdommacaa.S3 Go.Proofs.Ytbiphljdommacaa.Sh Go.Proofs.Ytbiphljdommacaa.Co Go.Proofs.Ytbiphljdommacaa.Ret Go.Proofs.Ytbiphljdommacaa.Plain Go.Proofs.YtbiphljdommacaaW.PrintWords Go.Proofs.YtbiphljdommacaaW.PrintLast Go.Proofs.YtbiphljdommacaaW.PrintMore Go.Proofs.Ytbiphljdommacaa.Ti
attribute [local go_sem] max2_int min2_int max_two min_two max_three min_three max_four min_four   -- for this text's walks alone
set_option linter.unusedVariables false
set_option linter.unusedSimpArgs false

/-! ### run_Fail_1: function 33 -/
def run_Fail_1.f (k : Nat) (l0_0 : List Int) (a0_1 : Int) (a0_2 : Int) (a1_0 : Int) (a1_1 : Int) (a1_2 : Int) (a1_3 : Int) (a1_4 : Int) (a2 : Int) (a3 : Int) : Option (Int × Int × Int × Int × Int × Int) := (task_Fail.f k l0_0 a0_1 a0_2 a1_0 a1_1 a1_2 a1_3 a1_4 a2 a3).bind fun bt180 => (some (bt180.1, bt180.2.1, bt180.2.2.1, bt180.2.2.2.1, bt180.2.2.2.2.1, bt180.2.2.2.2.2))
set_option maxHeartbeats 8000000 in
set_option maxRecDepth 100000 in
theorem run_Fail_1.calls (k : Nat) (A0_0 : Option Addr) (c0_0 : Nat) (l0_0 : List Int) (a0_1 : Int) (a0_2 : Int) (a1_0 : Int) (a1_1 : Int) (a1_2 : Int) (a1_3 : Int) (a1_4 : Int) (a2 : Int) (a3 : Int) (r1 : Int) (r2 : Int) (r3 : Int) (r4 : Int) (r5 : Int) (r6 : Int) (w : World) (hr0_0 : Kd.C (Kd.int .i64) w A0_0 l0_0.length l0_0) (hc0_0 : l0_0.length ≤ c0_0) (ga2 : Nat) (hbxa2 : w.heap[ga2]? = some (.cells #[.int .i64 a2] 3 (0, 0))) (ga3 : Nat) (hbxa3 : w.heap[ga3]? = some (.cells #[.int .i64 a3] 3 (0, 0))) (h : run_Fail_1.f k l0_0 a0_1 a0_2 a1_0 a1_1 a1_2 a1_3 a1_4 a2 a3 = some (r1, r2, r3, r4, r5, r6)) :
  Calls Try.prog 33 #[.agg #[.slice A0_0 l0_0.length c0_0, .int .i64 a0_1, .int .i64 a0_2], .agg #[.int .u8 a1_0, .int .i64 a1_1, .int .i64 a1_2, .int .i64 a1_3, .int .i64 a1_4], .pointer (some ⟨ga2, 0, none⟩), .pointer (some ⟨ga3, 0, none⟩)] w fun e w' => e = .returned (.tuple #[.agg #[.int .u8 r1, .int .i64 r2, .int .i64 r3, .int .i64 r4, .int .i64 r5], .int .i64 r6]) ∧ Below w.heap.size w w' := by
 have HBXa2 := A_ hbxa2; clear hbxa2; have HBXa3 := A_ hbxa3; clear hbxa3; have hu60 := Try.underlying60; have hu35 := Try.underlying35; have HR0_0 := A_ hr0_0; have HC0_0 := A_ hc0_0; clear hr0_0 hc0_0; have HB := A_ (Below.refl w.heap.size w); have H : ((task_Fail.f k l0_0 a0_1 a0_2 a1_0 a1_1 a1_2 a1_3 a1_4 a2 a3).bind fun bt180 => (some (bt180.1, bt180.2.1, bt180.2.2.1, bt180.2.2.2.1, bt180.2.2.2.2.1, bt180.2.2.2.2.2))) = some (r1, r2, r3, r4, r5, r6) := h; clear h; replace H := Option.bind_eq_some_iff.mp H; obtain ⟨⟨t180, t181, t182, t183, t184, t185⟩, A50, H⟩ := H; replace H : (some (t180, t181, t182, t183, t184, t185)) = some (r1, r2, r3, r4, r5, r6) := H; have A5 := Aside0.mk A50; clear A50; simp only [Option.some.injEq, Prod.mk.injEq] at H; obtain ⟨rfl, rfl, rfl, rfl, rfl, rfl⟩ := H
 go_enter Try.func33, Try.ntmps33
 go_wp2_with (first | ((with_reducible refine gd_ 4 rfl ?_); refine by0_ 4 #[.slice A0_0 l0_0.length c0_0, .int .i64 a0_1, .int .i64 a0_2] 60 ?_; clear HB; intro gb177 w6 BK177 GE177 HB; have hqca2_w6 : w6.cell? ⟨ga2, 0, none⟩ = some (.int .i64 a2) := (blk_cell (blk_below (g := ga2) (o := .cells #[.int .i64 a2] 3 (0, 0)) HBXa2.out HB.out) 0).trans rfl; have hqca3_w6 : w6.cell? ⟨ga3, 0, none⟩ = some (.int .i64 a3) := (blk_cell (blk_below (g := ga3) (o := .cells #[.int .i64 a3] 3 (0, 0)) HBXa3.out HB.out) 0).trans rfl) | ((with_reducible refine gd_ 5 rfl ?_); refine by1_ 5 #[.int .u8 a1_0, .int .i64 a1_1, .int .i64 a1_2, .int .i64 a1_3, .int .i64 a1_4] 35 BK177 ?_; clear HB BK177; intro gb178 w7 BK178 GE178 HB NB177_178 NB178_177 BK177; have hqca2_w7 : w7.cell? ⟨ga2, 0, none⟩ = some (.int .i64 a2) := (blk_cell (blk_below (g := ga2) (o := .cells #[.int .i64 a2] 3 (0, 0)) HBXa2.out HB.out) 0).trans rfl; have hqca3_w7 : w7.cell? ⟨ga3, 0, none⟩ = some (.int .i64 a3) := (blk_cell (blk_below (g := ga3) (o := .cells #[.int .i64 a3] 3 (0, 0)) HBXa3.out HB.out) 0).trans rfl) | ((with_reducible refine gd_ 6 rfl ?_); refine by2_ 6 #[.int .u8 0, .int .i64 0, .int .i64 0, .int .i64 0, .int .i64 0] 35 BK177 BK178 ?_; clear HB BK177 BK178; intro gb179 w8 BK179 GE179 HB NB177_179 NB179_177 BK177 NB178_179 NB179_178 BK178; have hnb9 := NB177_178.out; have hnc9 := NB178_177.out; have hz11 := cz3_ BK177; have hz13 := cz5_ BK178; have hqca2_w8 : w8.cell? ⟨ga2, 0, none⟩ = some (.int .i64 a2) := (blk_cell (blk_below (g := ga2) (o := .cells #[.int .i64 a2] 3 (0, 0)) HBXa2.out HB.out) 0).trans rfl; have hqca3_w8 : w8.cell? ⟨ga3, 0, none⟩ = some (.int .i64 a3) := (blk_cell (blk_below (g := ga3) (o := .cells #[.int .i64 a3] 3 (0, 0)) HBXa3.out HB.out) 0).trans rfl) | ((with_reducible refine gc_ 34 rfl ?_); refine gL_ (some 12) Try.func34 #[.agg #[.slice A0_0 l0_0.length c0_0, .int .i64 a0_1, .int .i64 a0_2], .agg #[.int .u8 a1_0, .int .i64 a1_1, .int .i64 a1_2, .int .i64 a1_3, .int .i64 a1_4], .int .i64 a2, .int .i64 a3] ?_; (with_reducible refine (task_Fail.calls k _ _ l0_0 a0_1 a0_2 a1_0 a1_1 a1_2 a1_3 a1_4 a2 a3 t180 t181 t182 t183 t184 t185 _ ?side1 ?side2 A5.out).mono ?_); (case side1 => exact cB_ HR0_0); (case side2 => exact HC0_0.out); rintro e w14 ⟨rfl, hb⟩; refine ⟨_, rfl, ?_⟩; replace BK177 := bs_ BK177 hb; replace BK178 := bs_ BK178 hb; replace BK179 := bs_ BK179 hb; replace HB := bB_ hb; (try clear hb); have hz15 := cz5_ BK179))
 refine bodyPost_ret (results_ct rfl _ _ gb179 35 #[.int .u8 t180, .int .i64 t181, .int .i64 t182, .int .i64 t183, .int .i64 t184] (0, 0) _ rfl (bP_ BK179) Try.underlying35 rfl (by kernel_rfl)) rfl ?_
 exact ⟨re_, hb_⟩

end Go.Proofs.Ytbiphljdommacaa.R
namespace Go.Proofs.Ytbiphljdommacaa.R
open Go.RowKit Go.Proofs.Ytbiphljdommacaa.S3 Go.Proofs.Ytbiphljdommacaa.Sh Go.Proofs.Ytbiphljdommacaa.Co Go.Proofs.Ytbiphljdommacaa.Ret Go.Proofs.Ytbiphljdommacaa.Plain Go.Proofs.YtbiphljdommacaaW.PrintWords Go.Proofs.YtbiphljdommacaaW.PrintLast Go.Proofs.YtbiphljdommacaaW.PrintMore Go.Proofs.Ytbiphljdommacaa.Ti
attribute [local go_sem] max2_int min2_int max_two min_two max_three min_three max_four min_four   -- for this text's walks alone
set_option linter.unusedVariables false
set_option linter.unusedSimpArgs false

/-! ### task_Beat: function 40 -/
def task_Beat.f (k : Nat) (l0_0 : List Int) (a0_1 : Int) (a0_2 : Int) (a1_0 : Int) (a1_1 : Int) (a1_2 : Int) (a1_3 : Int) (a1_4 : Int) (a2 : Int) (a3 : Int) : Option (Int × Int × Int × Int × Int × Int) := (task_moment.f a3).bind fun t189 => ((task_held.f k l0_0 a0_1 a0_2 a1_0 a1_1 a1_2 a1_3 a1_4 t189 a2).bind fun t190 => (if t190 = 0 then (some (a1_0, a1_1, a3, a1_3, a1_4, 0)) else (some (0, 0, 0, 0, 0, t190))))
set_option maxHeartbeats 8000000 in
set_option maxRecDepth 100000 in
theorem task_Beat.calls (k : Nat) (A0_0 : Option Addr) (c0_0 : Nat) (l0_0 : List Int) (a0_1 : Int) (a0_2 : Int) (a1_0 : Int) (a1_1 : Int) (a1_2 : Int) (a1_3 : Int) (a1_4 : Int) (a2 : Int) (a3 : Int) (r1 : Int) (r2 : Int) (r3 : Int) (r4 : Int) (r5 : Int) (r6 : Int) (w : World) (hr0_0 : Kd.C (Kd.int .i64) w A0_0 l0_0.length l0_0) (hc0_0 : l0_0.length ≤ c0_0) (h : task_Beat.f k l0_0 a0_1 a0_2 a1_0 a1_1 a1_2 a1_3 a1_4 a2 a3 = some (r1, r2, r3, r4, r5, r6)) :
  Calls Try.prog 40 #[.agg #[.slice A0_0 l0_0.length c0_0, .int .i64 a0_1, .int .i64 a0_2], .agg #[.int .u8 a1_0, .int .i64 a1_1, .int .i64 a1_2, .int .i64 a1_3, .int .i64 a1_4], .int .i64 a2, .int .i64 a3] w fun e w' => e = .returned (.tuple #[.agg #[.int .u8 r1, .int .i64 r2, .int .i64 r3, .int .i64 r4, .int .i64 r5], .int .i64 r6]) ∧ Below w.heap.size w w' := by
 have hu60 := Try.underlying60; have hu35 := Try.underlying35; have HR0_0 := A_ hr0_0; have HC0_0 := A_ hc0_0; clear hr0_0 hc0_0; have HB := A_ (Below.refl w.heap.size w); have H : ((task_moment.f a3).bind fun t189 => ((task_held.f k l0_0 a0_1 a0_2 a1_0 a1_1 a1_2 a1_3 a1_4 t189 a2).bind fun t190 => (if t190 = 0 then (some (a1_0, a1_1, a3, a1_3, a1_4, 0)) else (some (0, 0, 0, 0, 0, t190))))) = some (r1, r2, r3, r4, r5, r6) := h; clear h; replace H := Option.bind_eq_some_iff.mp H; obtain ⟨t189, A50, H⟩ := H
 try dsimp only at H
 have A5 := Aside0.mk A50; clear A50; replace H := Option.bind_eq_some_iff.mp H; obtain ⟨t190, A60, H⟩ := H; replace H : (if t190 = 0 then (some (a1_0, a1_1, a3, a1_3, a1_4, 0)) else (some (0, 0, 0, 0, 0, t190))) = some (r1, r2, r3, r4, r5, r6) := H; have A6 := Aside0.mk A60; clear A60
 by_cases c7 : t190 = 0
 ·
  rw [if_pos c7] at H; have c7b0 : (t190 == 0) = true := beq_iff_eq.mpr c7; have c7b1 : (t190 != 0) = false := bne_eq_false_iff_eq.mpr c7; clear c7; simp only [Option.some.injEq, Prod.mk.injEq] at H; obtain ⟨rfl, rfl, rfl, rfl, rfl, rfl⟩ := H
  go_enter Try.func40, Try.ntmps40
  try go_wp2_with (first | ((with_reducible refine gd_ 4 rfl ?_); refine by0_ 4 #[.slice A0_0 l0_0.length c0_0, .int .i64 a0_1, .int .i64 a0_2] 60 ?_; clear HB; intro gb186 w8 BK186 GE186 HB; have GW186 := GE186) | ((with_reducible refine gd_ 5 rfl ?_); refine by1_ 5 #[.int .u8 a1_0, .int .i64 a1_1, .int .i64 a1_2, .int .i64 a1_3, .int .i64 a1_4] 35 BK186 ?_; clear HB BK186; intro gb187 w9 BK187 GE187 HB NB186_187 NB187_186 BK186; have GW187 := GE187) | ((with_reducible refine gd_ 8 rfl ?_); refine by2_ 8 #[.int .u8 0, .int .i64 0, .int .i64 0, .int .i64 0, .int .i64 0] 35 BK186 BK187 ?_; clear HB BK186 BK187; intro gb188 w10 BK188 GE188 HB NB186_188 NB188_186 BK186 NB187_188 NB188_187 BK187; have GW188 := GE188))
  replace BK186 := A_ (blk_drew BK186.out); replace BK187 := A_ (blk_drew BK187.out); replace BK188 := A_ (blk_drew BK188.out); replace HB := A_ (below_drew1 HB.out); refine start_ (n := 7) (S := fun w' => w'.cell? ⟨gb186, 0, none⟩ = some (.slice A0_0 l0_0.length c0_0) ∧ w'.cell? ⟨gb186, 1, none⟩ = some (.int .i64 a0_1) ∧ w'.cell? ⟨gb186, 2, none⟩ = some (.int .i64 a0_2) ∧ w'.cell? ⟨gb187, 0, none⟩ = some (.int .u8 a1_0) ∧ w'.cell? ⟨gb187, 1, none⟩ = some (.int .i64 a1_1) ∧ w'.cell? ⟨gb187, 2, none⟩ = some (.int .i64 a1_2) ∧ w'.cell? ⟨gb187, 3, none⟩ = some (.int .i64 a1_3) ∧ w'.cell? ⟨gb187, 4, none⟩ = some (.int .i64 a1_4)) (ds := []) (b_ 7 0) (by kernel_rfl) rfl rfl ⟨ck_ BK186 0, ck_ BK186 1, ck_ BK186 2, ck_ BK187 0, ck_ BK187 1, ck_ BK187 2, ck_ BK187 3, ck_ BK187 4⟩ (fun hHeld => ?_); generalize w10.drew = w11 at BK186 BK187 BK188 HB hHeld ⊢; refine pure_ (i := 2) (N := some 13) (v := ?_) (a' := ?_) (b_ 7 4) rfl rfl (by kernel_rfl) (fun _ _ _ h => h) (Or.inl ⟨by rfl, ?_⟩) ?_ ?_; rotate_left
  ·
   intro w'; go_simp; (with_reducible rfl)
  rotate_left
  ·
   simp only [Act.put, sa_, s0_, s1_, i64_w, i32_w]
   rfl
  refine pure_ (i := 4) (N := some 15) (v := ?_) (a' := ?_) (b_ 7 20) rfl rfl (by kernel_rfl) (fun _ _ _ h => h) (Or.inl ⟨by rfl, ?_⟩) ?_ ?_; rotate_left
  ·
   intro w'; go_simp; (with_reducible rfl)
  rotate_left
  ·
   simp only [Act.put, sa_, s0_, s1_, i64_w, i32_w]
   rfl
  refine take_ (i := 0) (N := some 11) (v := ?_) (a' := ?_) (b_ 7 21) rfl rfl (by kernel_rfl) (fun _ _ _ h => h) (Or.inl ⟨by rfl, ?_⟩) hHeld ?_ ?_; rotate_left
  ·
   rintro w' ⟨s0, s1, s2, s3, s4, s5, s6, s7⟩; go_simp; (with_reducible rfl)
  rotate_left
  ·
   simp only [Act.put, sa_, s0_, s1_, i64_w, i32_w]
   rfl
  refine take_ (i := 1) (N := some 12) (v := ?_) (a' := ?_) (b_ 7 23) rfl rfl (by kernel_rfl) (fun _ _ _ h => h) (Or.inl ⟨by rfl, ?_⟩) hHeld ?_ ?_; rotate_left
  ·
   rintro w' ⟨s0, s1, s2, s3, s4, s5, s6, s7⟩; go_simp; (with_reducible rfl)
  rotate_left
  ·
   simp only [Act.put, sa_, s0_, s1_, i64_w, i32_w]
   rfl
  refine one_ (i := 3) (N := some 14) (b_ 7 31) rfl rfl (by kernel_rfl) (by decide) (fun K hK => ?_); refine goes_ Try.func56 (by kernel_rfl) rfl #[.int .i64 a3] (by rfl) rfl rfl ga_ ?_; (with_reducible refine (task_moment.calls a3 t189 _ A5.out).mono ?_); rintro e w' ⟨rfl, ⟨nd, rfl⟩⟩; refine ⟨_, rfl, ?_⟩; refine hK.out _ _ ⟨ck_ BK186 0, ck_ BK186 1, ck_ BK186 2, ck_ BK187 0, ck_ BK187 1, ck_ BK187 2, ck_ BK187 3, ck_ BK187 4⟩ (fun hHeld => ?_); clear hK K; refine norm_ (a' := ?_) ?_ ?_; rotate_left
  ·
   show Act.put _ (some 14) _ = _; simp only [Act.put, sa_, s0_, s1_, i64_w, i32_w]
   rfl
  refine one_ (i := 5) (N := some 16) (b_ 7 63) rfl rfl (by kernel_rfl) (by decide) (fun K hK => ?_); refine goes_ Try.func57 (by kernel_rfl) rfl #[.agg #[.slice A0_0 l0_0.length c0_0, .int .i64 a0_1, .int .i64 a0_2], .agg #[.int .u8 a1_0, .int .i64 a1_1, .int .i64 a1_2, .int .i64 a1_3, .int .i64 a1_4], .bool t189, .int .i64 a2] (by rfl) rfl rfl ga_ ?_; (with_reducible refine (task_held.calls k _ _ l0_0 a0_1 a0_2 a1_0 a1_1 a1_2 a1_3 a1_4 t189 a2 t190 _ ?side1 ?side2 A6.out).mono ?_); (case side1 => exact cX_ (Kd.C_below HR0_0.out hb_)); (case side2 => exact HC0_0.out); rintro e w12 ⟨rfl, hb⟩; refine ⟨_, rfl, ?_⟩; replace BK186 := bs_ BK186 hb; replace BK187 := bs_ BK187 hb; replace BK188 := bs_ BK188 hb; replace HB := bB_ hb; (try clear hb); refine hK.out _ _ ⟨ck_ BK186 0, ck_ BK186 1, ck_ BK186 2, ck_ BK187 0, ck_ BK187 1, ck_ BK187 2, ck_ BK187 3, ck_ BK187 4⟩ (fun hHeld => ?_); clear hK K; refine norm_ (a' := ?_) ?_ ?_
  rotate_left
  ·
   show Act.put _ (some 16) _ = _; simp only [Act.put, sa_, s0_, s1_, i64_w, i32_w]
   rfl
  refine pure_ (i := 6) (N := some 10) (v := ?_) (a' := ?_) (b_ 7 127) rfl rfl (by kernel_rfl) (fun _ _ _ h => h) (Or.inl ⟨by rfl, ?_⟩) ?_ ?_; rotate_left
  ·
   intro w'; go_simp; (with_reducible rfl)
  rotate_left
  ·
   simp only [Act.put, sa_, s0_, s1_, i64_w, i32_w]
   rfl
  refine done_ (by kernel_rfl) ?_; have hnb14 := NB187_188.out; have hnc14 := NB188_187.out; have hz15 := cz5_ BK187; have hz17 := cz5_ BK188
  try go_wp2
  refine bodyPost_ret (results_ct rfl _ _ gb188 35 #[.int .u8 a1_0, .int .i64 a1_1, .int .i64 a3, .int .i64 a1_3, .int .i64 a1_4] (0, 0) _ rfl (bP_ BK188) Try.underlying35 rfl (by kernel_rfl)) rfl ?_
  exact ⟨re_, hb_⟩
 ·
  rw [if_neg c7] at H; have c7b0 : (t190 == 0) = false := beq_eq_false_iff_ne.mpr c7; have c7b1 : (t190 != 0) = true := bne_iff_ne.mpr c7; simp only [Option.some.injEq, Prod.mk.injEq] at H; obtain ⟨rfl, rfl, rfl, rfl, rfl, rfl⟩ := H
  go_enter Try.func40, Try.ntmps40
  try go_wp2_with (first | ((with_reducible refine gd_ 4 rfl ?_); refine by0_ 4 #[.slice A0_0 l0_0.length c0_0, .int .i64 a0_1, .int .i64 a0_2] 60 ?_; clear HB; intro gb186 w18 BK186 GE186 HB; have GW186 := GE186) | ((with_reducible refine gd_ 5 rfl ?_); refine by1_ 5 #[.int .u8 a1_0, .int .i64 a1_1, .int .i64 a1_2, .int .i64 a1_3, .int .i64 a1_4] 35 BK186 ?_; clear HB BK186; intro gb187 w19 BK187 GE187 HB NB186_187 NB187_186 BK186; have GW187 := GE187) | ((with_reducible refine gd_ 8 rfl ?_); refine by2_ 8 #[.int .u8 0, .int .i64 0, .int .i64 0, .int .i64 0, .int .i64 0] 35 BK186 BK187 ?_; clear HB BK186 BK187; intro gb188 w20 BK188 GE188 HB NB186_188 NB188_186 BK186 NB187_188 NB188_187 BK187; have GW188 := GE188))
  replace BK186 := A_ (blk_drew BK186.out); replace BK187 := A_ (blk_drew BK187.out); replace BK188 := A_ (blk_drew BK188.out); replace HB := A_ (below_drew1 HB.out); refine start_ (n := 7) (S := fun w' => w'.cell? ⟨gb186, 0, none⟩ = some (.slice A0_0 l0_0.length c0_0) ∧ w'.cell? ⟨gb186, 1, none⟩ = some (.int .i64 a0_1) ∧ w'.cell? ⟨gb186, 2, none⟩ = some (.int .i64 a0_2) ∧ w'.cell? ⟨gb187, 0, none⟩ = some (.int .u8 a1_0) ∧ w'.cell? ⟨gb187, 1, none⟩ = some (.int .i64 a1_1) ∧ w'.cell? ⟨gb187, 2, none⟩ = some (.int .i64 a1_2) ∧ w'.cell? ⟨gb187, 3, none⟩ = some (.int .i64 a1_3) ∧ w'.cell? ⟨gb187, 4, none⟩ = some (.int .i64 a1_4)) (ds := []) (b_ 7 0) (by kernel_rfl) rfl rfl ⟨ck_ BK186 0, ck_ BK186 1, ck_ BK186 2, ck_ BK187 0, ck_ BK187 1, ck_ BK187 2, ck_ BK187 3, ck_ BK187 4⟩ (fun hHeld => ?_); generalize w20.drew = w21 at BK186 BK187 BK188 HB hHeld ⊢; refine pure_ (i := 2) (N := some 13) (v := ?_) (a' := ?_) (b_ 7 4) rfl rfl (by kernel_rfl) (fun _ _ _ h => h) (Or.inl ⟨by rfl, ?_⟩) ?_ ?_; rotate_left
  ·
   intro w'; go_simp; (with_reducible rfl)
  rotate_left
  ·
   simp only [Act.put, sa_, s0_, s1_, i64_w, i32_w]
   rfl
  refine pure_ (i := 4) (N := some 15) (v := ?_) (a' := ?_) (b_ 7 20) rfl rfl (by kernel_rfl) (fun _ _ _ h => h) (Or.inl ⟨by rfl, ?_⟩) ?_ ?_; rotate_left
  ·
   intro w'; go_simp; (with_reducible rfl)
  rotate_left
  ·
   simp only [Act.put, sa_, s0_, s1_, i64_w, i32_w]
   rfl
  refine take_ (i := 0) (N := some 11) (v := ?_) (a' := ?_) (b_ 7 21) rfl rfl (by kernel_rfl) (fun _ _ _ h => h) (Or.inl ⟨by rfl, ?_⟩) hHeld ?_ ?_; rotate_left
  ·
   rintro w' ⟨s0, s1, s2, s3, s4, s5, s6, s7⟩; go_simp; (with_reducible rfl)
  rotate_left
  ·
   simp only [Act.put, sa_, s0_, s1_, i64_w, i32_w]
   rfl
  refine take_ (i := 1) (N := some 12) (v := ?_) (a' := ?_) (b_ 7 23) rfl rfl (by kernel_rfl) (fun _ _ _ h => h) (Or.inl ⟨by rfl, ?_⟩) hHeld ?_ ?_; rotate_left
  ·
   rintro w' ⟨s0, s1, s2, s3, s4, s5, s6, s7⟩; go_simp; (with_reducible rfl)
  rotate_left
  ·
   simp only [Act.put, sa_, s0_, s1_, i64_w, i32_w]
   rfl
  refine one_ (i := 3) (N := some 14) (b_ 7 31) rfl rfl (by kernel_rfl) (by decide) (fun K hK => ?_); refine goes_ Try.func56 (by kernel_rfl) rfl #[.int .i64 a3] (by rfl) rfl rfl ga_ ?_; (with_reducible refine (task_moment.calls a3 t189 _ A5.out).mono ?_); rintro e w' ⟨rfl, ⟨nd, rfl⟩⟩; refine ⟨_, rfl, ?_⟩; refine hK.out _ _ ⟨ck_ BK186 0, ck_ BK186 1, ck_ BK186 2, ck_ BK187 0, ck_ BK187 1, ck_ BK187 2, ck_ BK187 3, ck_ BK187 4⟩ (fun hHeld => ?_); clear hK K; refine norm_ (a' := ?_) ?_ ?_; rotate_left
  ·
   show Act.put _ (some 14) _ = _; simp only [Act.put, sa_, s0_, s1_, i64_w, i32_w]
   rfl
  refine one_ (i := 5) (N := some 16) (b_ 7 63) rfl rfl (by kernel_rfl) (by decide) (fun K hK => ?_); refine goes_ Try.func57 (by kernel_rfl) rfl #[.agg #[.slice A0_0 l0_0.length c0_0, .int .i64 a0_1, .int .i64 a0_2], .agg #[.int .u8 a1_0, .int .i64 a1_1, .int .i64 a1_2, .int .i64 a1_3, .int .i64 a1_4], .bool t189, .int .i64 a2] (by rfl) rfl rfl ga_ ?_; (with_reducible refine (task_held.calls k _ _ l0_0 a0_1 a0_2 a1_0 a1_1 a1_2 a1_3 a1_4 t189 a2 t190 _ ?side1 ?side2 A6.out).mono ?_); (case side1 => exact cX_ (Kd.C_below HR0_0.out hb_)); (case side2 => exact HC0_0.out); rintro e w22 ⟨rfl, hb⟩; refine ⟨_, rfl, ?_⟩; replace BK186 := bs_ BK186 hb; replace BK187 := bs_ BK187 hb; replace BK188 := bs_ BK188 hb; replace HB := bB_ hb; (try clear hb); refine hK.out _ _ ⟨ck_ BK186 0, ck_ BK186 1, ck_ BK186 2, ck_ BK187 0, ck_ BK187 1, ck_ BK187 2, ck_ BK187 3, ck_ BK187 4⟩ (fun hHeld => ?_); clear hK K; refine norm_ (a' := ?_) ?_ ?_
  rotate_left
  ·
   show Act.put _ (some 16) _ = _; simp only [Act.put, sa_, s0_, s1_, i64_w, i32_w]
   rfl
  refine pure_ (i := 6) (N := some 10) (v := ?_) (a' := ?_) (b_ 7 127) rfl rfl (by kernel_rfl) (fun _ _ _ h => h) (Or.inl ⟨by rfl, ?_⟩) ?_ ?_; rotate_left
  ·
   intro w'; go_simp; (with_reducible rfl)
  rotate_left
  ·
   simp only [Act.put, sa_, s0_, s1_, i64_w, i32_w]
   rfl
  refine done_ (by kernel_rfl) ?_; have hz25 := cz5_ BK188
  try go_wp2
  refine bodyPost_ret (results_ct rfl _ _ gb188 35 #[.int .u8 0, .int .i64 0, .int .i64 0, .int .i64 0, .int .i64 0] (0, 0) _ rfl (bP_ BK188) Try.underlying35 rfl (by kernel_rfl)) rfl ?_
  exact ⟨re_, hb_⟩

end Go.Proofs.Ytbiphljdommacaa.R
namespace Go.Proofs.Ytbiphljdommacaa.R
open Go.RowKit Go.Proofs.Ytbiphljdommacaa.S3 Go.Proofs.Ytbiphljdommacaa.Sh Go.Proofs.Ytbiphljdommacaa.Co Go.Proofs.Ytbiphljdommacaa.Ret Go.Proofs.Ytbiphljdommacaa.Plain Go.Proofs.YtbiphljdommacaaW.PrintWords Go.Proofs.YtbiphljdommacaaW.PrintLast Go.Proofs.YtbiphljdommacaaW.PrintMore Go.Proofs.Ytbiphljdommacaa.Ti
attribute [local go_sem] max2_int min2_int max_two min_two max_three min_three max_four min_four   -- for this text's walks alone
set_option linter.unusedVariables false
set_option linter.unusedSimpArgs false

/-! ### run_Beat_1: function 39 -/
def run_Beat_1.f (k : Nat) (l0_0 : List Int) (a0_1 : Int) (a0_2 : Int) (a1_0 : Int) (a1_1 : Int) (a1_2 : Int) (a1_3 : Int) (a1_4 : Int) (a2 : Int) (a3 : Int) : Option (Int × Int × Int × Int × Int × Int) := (task_Beat.f k l0_0 a0_1 a0_2 a1_0 a1_1 a1_2 a1_3 a1_4 a2 a3).bind fun bt194 => (some (bt194.1, bt194.2.1, bt194.2.2.1, bt194.2.2.2.1, bt194.2.2.2.2.1, bt194.2.2.2.2.2))
set_option maxHeartbeats 8000000 in
set_option maxRecDepth 100000 in
theorem run_Beat_1.calls (k : Nat) (A0_0 : Option Addr) (c0_0 : Nat) (l0_0 : List Int) (a0_1 : Int) (a0_2 : Int) (a1_0 : Int) (a1_1 : Int) (a1_2 : Int) (a1_3 : Int) (a1_4 : Int) (a2 : Int) (a3 : Int) (r1 : Int) (r2 : Int) (r3 : Int) (r4 : Int) (r5 : Int) (r6 : Int) (w : World) (hr0_0 : Kd.C (Kd.int .i64) w A0_0 l0_0.length l0_0) (hc0_0 : l0_0.length ≤ c0_0) (ga2 : Nat) (hbxa2 : w.heap[ga2]? = some (.cells #[.int .i64 a2] 3 (0, 0))) (ga3 : Nat) (hbxa3 : w.heap[ga3]? = some (.cells #[.int .i64 a3] 3 (0, 0))) (h : run_Beat_1.f k l0_0 a0_1 a0_2 a1_0 a1_1 a1_2 a1_3 a1_4 a2 a3 = some (r1, r2, r3, r4, r5, r6)) :
  Calls Try.prog 39 #[.agg #[.slice A0_0 l0_0.length c0_0, .int .i64 a0_1, .int .i64 a0_2], .agg #[.int .u8 a1_0, .int .i64 a1_1, .int .i64 a1_2, .int .i64 a1_3, .int .i64 a1_4], .pointer (some ⟨ga2, 0, none⟩), .pointer (some ⟨ga3, 0, none⟩)] w fun e w' => e = .returned (.tuple #[.agg #[.int .u8 r1, .int .i64 r2, .int .i64 r3, .int .i64 r4, .int .i64 r5], .int .i64 r6]) ∧ Below w.heap.size w w' := by
 have HBXa2 := A_ hbxa2; clear hbxa2; have HBXa3 := A_ hbxa3; clear hbxa3; have hu60 := Try.underlying60; have hu35 := Try.underlying35; have HR0_0 := A_ hr0_0; have HC0_0 := A_ hc0_0; clear hr0_0 hc0_0; have HB := A_ (Below.refl w.heap.size w); have H : ((task_Beat.f k l0_0 a0_1 a0_2 a1_0 a1_1 a1_2 a1_3 a1_4 a2 a3).bind fun bt194 => (some (bt194.1, bt194.2.1, bt194.2.2.1, bt194.2.2.2.1, bt194.2.2.2.2.1, bt194.2.2.2.2.2))) = some (r1, r2, r3, r4, r5, r6) := h; clear h; replace H := Option.bind_eq_some_iff.mp H; obtain ⟨⟨t194, t195, t196, t197, t198, t199⟩, A50, H⟩ := H; replace H : (some (t194, t195, t196, t197, t198, t199)) = some (r1, r2, r3, r4, r5, r6) := H; have A5 := Aside0.mk A50; clear A50; simp only [Option.some.injEq, Prod.mk.injEq] at H; obtain ⟨rfl, rfl, rfl, rfl, rfl, rfl⟩ := H
 go_enter Try.func39, Try.ntmps39
 go_wp2_with (first | ((with_reducible refine gd_ 4 rfl ?_); refine by0_ 4 #[.slice A0_0 l0_0.length c0_0, .int .i64 a0_1, .int .i64 a0_2] 60 ?_; clear HB; intro gb191 w6 BK191 GE191 HB; have hqca2_w6 : w6.cell? ⟨ga2, 0, none⟩ = some (.int .i64 a2) := (blk_cell (blk_below (g := ga2) (o := .cells #[.int .i64 a2] 3 (0, 0)) HBXa2.out HB.out) 0).trans rfl; have hqca3_w6 : w6.cell? ⟨ga3, 0, none⟩ = some (.int .i64 a3) := (blk_cell (blk_below (g := ga3) (o := .cells #[.int .i64 a3] 3 (0, 0)) HBXa3.out HB.out) 0).trans rfl) | ((with_reducible refine gd_ 5 rfl ?_); refine by1_ 5 #[.int .u8 a1_0, .int .i64 a1_1, .int .i64 a1_2, .int .i64 a1_3, .int .i64 a1_4] 35 BK191 ?_; clear HB BK191; intro gb192 w7 BK192 GE192 HB NB191_192 NB192_191 BK191; have hqca2_w7 : w7.cell? ⟨ga2, 0, none⟩ = some (.int .i64 a2) := (blk_cell (blk_below (g := ga2) (o := .cells #[.int .i64 a2] 3 (0, 0)) HBXa2.out HB.out) 0).trans rfl; have hqca3_w7 : w7.cell? ⟨ga3, 0, none⟩ = some (.int .i64 a3) := (blk_cell (blk_below (g := ga3) (o := .cells #[.int .i64 a3] 3 (0, 0)) HBXa3.out HB.out) 0).trans rfl) | ((with_reducible refine gd_ 6 rfl ?_); refine by2_ 6 #[.int .u8 0, .int .i64 0, .int .i64 0, .int .i64 0, .int .i64 0] 35 BK191 BK192 ?_; clear HB BK191 BK192; intro gb193 w8 BK193 GE193 HB NB191_193 NB193_191 BK191 NB192_193 NB193_192 BK192; have hnb9 := NB191_192.out; have hnc9 := NB192_191.out; have hz11 := cz3_ BK191; have hz13 := cz5_ BK192; have hqca2_w8 : w8.cell? ⟨ga2, 0, none⟩ = some (.int .i64 a2) := (blk_cell (blk_below (g := ga2) (o := .cells #[.int .i64 a2] 3 (0, 0)) HBXa2.out HB.out) 0).trans rfl; have hqca3_w8 : w8.cell? ⟨ga3, 0, none⟩ = some (.int .i64 a3) := (blk_cell (blk_below (g := ga3) (o := .cells #[.int .i64 a3] 3 (0, 0)) HBXa3.out HB.out) 0).trans rfl) | ((with_reducible refine gc_ 40 rfl ?_); refine gL_ (some 12) Try.func40 #[.agg #[.slice A0_0 l0_0.length c0_0, .int .i64 a0_1, .int .i64 a0_2], .agg #[.int .u8 a1_0, .int .i64 a1_1, .int .i64 a1_2, .int .i64 a1_3, .int .i64 a1_4], .int .i64 a2, .int .i64 a3] ?_; (with_reducible refine (task_Beat.calls k _ _ l0_0 a0_1 a0_2 a1_0 a1_1 a1_2 a1_3 a1_4 a2 a3 t194 t195 t196 t197 t198 t199 _ ?side1 ?side2 A5.out).mono ?_); (case side1 => exact cB_ HR0_0); (case side2 => exact HC0_0.out); rintro e w14 ⟨rfl, hb⟩; refine ⟨_, rfl, ?_⟩; replace BK191 := bs_ BK191 hb; replace BK192 := bs_ BK192 hb; replace BK193 := bs_ BK193 hb; replace HB := bB_ hb; (try clear hb); have hz15 := cz5_ BK193))
 refine bodyPost_ret (results_ct rfl _ _ gb193 35 #[.int .u8 t194, .int .i64 t195, .int .i64 t196, .int .i64 t197, .int .i64 t198] (0, 0) _ rfl (bP_ BK193) Try.underlying35 rfl (by kernel_rfl)) rfl ?_
 exact ⟨re_, hb_⟩

end Go.Proofs.Ytbiphljdommacaa.R

/- Contracts of Go functions and what they come to, over the translation of this seat: made by a program of this session (print2.py). -/
import Derived.Test.YtbiphljdommacaaS3
import Derived.Test.YtbiphljdommacaaSh
import Derived.Test.YtbiphljdommacaaRx6
import Derived.Test.YtbiphljdommacaaRx7
namespace Go.Proofs.Ytbiphljdommacaa.R
open Go.RowKit Go.Proofs.Ytbiphljdommacaa.S3 Go.Proofs.Ytbiphljdommacaa.Sh Go.Proofs.Ytbiphljdommacaa.Co Go.Proofs.Ytbiphljdommacaa.Ret Go.Proofs.Ytbiphljdommacaa.Plain Go.Proofs.YtbiphljdommacaaW.PrintWords Go.Proofs.YtbiphljdommacaaW.PrintLast Go.Proofs.YtbiphljdommacaaW.PrintMore Go.Proofs.Ytbiphljdommacaa.Ti
attribute [local go_sem] max2_int min2_int max_two min_two max_three min_three max_four min_four   -- for this text's walks alone
set_option linter.unusedVariables false
set_option linter.unusedSimpArgs false

/-! ### task_Check: function 36 -/
def task_Check.f (k : Nat) (l0_0 : List Int) (a0_1 : Int) (a0_2 : Int) (a1_0 : Int) (a1_1 : Int) (a1_2 : Int) (a1_3 : Int) (a1_4 : Int) : Option (Int) := (task_node.f l0_0 a0_1 a0_2).bind fun t118 => (if t118 = true then ((task_may.f k l0_0 a0_1 a0_2 a1_0 a1_1 a1_2 a1_3 a1_4).bind fun t119 => (if t119 = true then (some 0) else (some 8))) else (some 8))
theorem task_Check.mono : ∀ a0 a1 a2 a3 a4 a5 a6 a7 k, LeO (task_Check.f k a0 a1 a2 a3 a4 a5 a6 a7) (task_Check.f (k + 1) a0 a1 a2 a3 a4 a5 a6 a7) := by
 intro a0 a1 a2 a3 a4 a5 a6 a7 k
 unfold task_Check.f
 repeat' first
   | (with_reducible exact LeO.refl _)
   | (with_reducible refine LeO.ite ?_ ?_)
   | (with_reducible refine LeO.bind ?_ (fun _ => ?_))
   | exact task_may.mono _ _ _ _ _ _ _ _ _
   | exact LeO.none _
   | refine LeO.ite ?_ ?_
   | refine LeO.bind ?_ (fun _ => ?_)
set_option maxHeartbeats 8000000 in
set_option maxRecDepth 100000 in
theorem task_Check.calls (k : Nat) (A0_0 : Option Addr) (c0_0 : Nat) (l0_0 : List Int) (a0_1 : Int) (a0_2 : Int) (a1_0 : Int) (a1_1 : Int) (a1_2 : Int) (a1_3 : Int) (a1_4 : Int) (r : Int) (w : World) (hr0_0 : Kd.C (Kd.int .i64) w A0_0 l0_0.length l0_0) (hc0_0 : l0_0.length ≤ c0_0) (h : task_Check.f k l0_0 a0_1 a0_2 a1_0 a1_1 a1_2 a1_3 a1_4 = some r) :
  Calls Try.prog 36 #[.agg #[.slice A0_0 l0_0.length c0_0, .int .i64 a0_1, .int .i64 a0_2], .agg #[.int .u8 a1_0, .int .i64 a1_1, .int .i64 a1_2, .int .i64 a1_3, .int .i64 a1_4]] w fun e w' => e = .returned (.int .i64 r) ∧ Below w.heap.size w w' := by
 have hu60 := Try.underlying60; have hu35 := Try.underlying35; have HR0_0 := A_ hr0_0; have HC0_0 := A_ hc0_0; clear hr0_0 hc0_0; have HB := A_ (Below.refl w.heap.size w); have H : ((task_node.f l0_0 a0_1 a0_2).bind fun t118 => (if t118 = true then ((task_may.f k l0_0 a0_1 a0_2 a1_0 a1_1 a1_2 a1_3 a1_4).bind fun t119 => (if t119 = true then (some 0) else (some 8))) else (some 8))) = some r := h; clear h; replace H := Option.bind_eq_some_iff.mp H; obtain ⟨t118, A30, H⟩ := H; replace H : (if t118 = true then ((task_may.f k l0_0 a0_1 a0_2 a1_0 a1_1 a1_2 a1_3 a1_4).bind fun t119 => (if t119 = true then (some 0) else (some 8))) else (some 8)) = some r := H; have A3 := Aside0.mk A30; clear A30
 by_cases c4 : t118 = true
 ·
  subst c4; have H1 : ((task_may.f k l0_0 a0_1 a0_2 a1_0 a1_1 a1_2 a1_3 a1_4).bind fun t119 => (if t119 = true then (some 0) else (some 8))) = some r := by rw [if_pos rfl] at H; exact H
  clear H; have H := H1; clear H1; replace H := Option.bind_eq_some_iff.mp H; obtain ⟨t119, A50, H⟩ := H; replace H : (if t119 = true then (some 0) else (some 8)) = some r := H; have A5 := Aside0.mk A50; clear A50
  by_cases c6 : t119 = true
  ·
   subst c6; have H1 : (some 0) = some r := by rw [if_pos rfl] at H; exact H
   clear H; have H := H1; clear H1; obtain rfl := Option.some.inj H
   go_enter Try.func36, Try.ntmps36
   go_wp2_with (first | ((with_reducible refine gd_ 2 rfl ?_); refine by0_ 2 #[.slice A0_0 l0_0.length c0_0, .int .i64 a0_1, .int .i64 a0_2] 60 ?_; clear HB; intro gb116 w7 BK116 GE116 HB; have GW116 := GE116) | ((with_reducible refine gd_ 3 rfl ?_); refine by1_ 3 #[.int .u8 a1_0, .int .i64 a1_1, .int .i64 a1_2, .int .i64 a1_3, .int .i64 a1_4] 35 BK116 ?_; clear HB BK116; intro gb117 w8 BK117 GE117 HB NB116_117 NB117_116 BK116; have hz10 := cz3_ BK116) | ((with_reducible refine gc_ 60 rfl ?_); refine gL_ (some 6) Try.func60 #[.agg #[.slice A0_0 l0_0.length c0_0, .int .i64 a0_1, .int .i64 a0_2]] ?_; (with_reducible refine (task_node.calls _ _ l0_0 a0_1 a0_2 true _ ?side1 ?side2 A3.out).mono ?_); (case side1 => exact cB_ HR0_0); (case side2 => exact HC0_0.out); rintro e w11 ⟨rfl, hb⟩; refine ⟨_, rfl, ?_⟩; replace BK116 := bs_ BK116 hb; replace BK117 := bs_ BK117 hb; replace HB := bB_ hb; (try clear hb); have hz12 := cz3_ BK116; have hz13 := cz5_ BK117) | (go_at_call 61; (with_reducible refine (task_may.calls k _ _ l0_0 a0_1 a0_2 a1_0 a1_1 a1_2 a1_3 a1_4 true _ ?side1 ?side2 A5.out).mono ?_); (case side1 => exact cB_ HR0_0); (case side2 => exact HC0_0.out); rintro e w14 ⟨rfl, hb⟩; replace BK116 := bs_ BK116 hb; replace BK117 := bs_ BK117 hb; replace HB := bB_ hb; (try clear hb)))
   go_ret
   exact ⟨re_, hb_⟩
  ·
   replace c6 := Bool.eq_false_iff.mpr c6; subst c6; have H1 : (some 8) = some r := by rw [if_neg (show ¬ (false = true) by decide)] at H; exact H
   clear H; have H := H1; clear H1; obtain rfl := Option.some.inj H
   go_enter Try.func36, Try.ntmps36
   go_wp2_with (first | ((with_reducible refine gd_ 2 rfl ?_); refine by0_ 2 #[.slice A0_0 l0_0.length c0_0, .int .i64 a0_1, .int .i64 a0_2] 60 ?_; clear HB; intro gb116 w15 BK116 GE116 HB; have GW116 := GE116) | ((with_reducible refine gd_ 3 rfl ?_); refine by1_ 3 #[.int .u8 a1_0, .int .i64 a1_1, .int .i64 a1_2, .int .i64 a1_3, .int .i64 a1_4] 35 BK116 ?_; clear HB BK116; intro gb117 w16 BK117 GE117 HB NB116_117 NB117_116 BK116; have hz18 := cz3_ BK116) | ((with_reducible refine gc_ 60 rfl ?_); refine gL_ (some 6) Try.func60 #[.agg #[.slice A0_0 l0_0.length c0_0, .int .i64 a0_1, .int .i64 a0_2]] ?_; (with_reducible refine (task_node.calls _ _ l0_0 a0_1 a0_2 true _ ?side1 ?side2 A3.out).mono ?_); (case side1 => exact cB_ HR0_0); (case side2 => exact HC0_0.out); rintro e w19 ⟨rfl, hb⟩; refine ⟨_, rfl, ?_⟩; replace BK116 := bs_ BK116 hb; replace BK117 := bs_ BK117 hb; replace HB := bB_ hb; (try clear hb); have hz20 := cz3_ BK116; have hz21 := cz5_ BK117) | (go_at_call 61; (with_reducible refine (task_may.calls k _ _ l0_0 a0_1 a0_2 a1_0 a1_1 a1_2 a1_3 a1_4 false _ ?side1 ?side2 A5.out).mono ?_); (case side1 => exact cB_ HR0_0); (case side2 => exact HC0_0.out); rintro e w22 ⟨rfl, hb⟩; replace BK116 := bs_ BK116 hb; replace BK117 := bs_ BK117 hb; replace HB := bB_ hb; (try clear hb)))
   go_ret
   exact ⟨re_, hb_⟩
 ·
  replace c4 := Bool.eq_false_iff.mpr c4; subst c4; have H1 : (some 8) = some r := by rw [if_neg (show ¬ (false = true) by decide)] at H; exact H
  clear H; have H := H1; clear H1; obtain rfl := Option.some.inj H
  go_enter Try.func36, Try.ntmps36
  go_wp2_with (first | ((with_reducible refine gd_ 2 rfl ?_); refine by0_ 2 #[.slice A0_0 l0_0.length c0_0, .int .i64 a0_1, .int .i64 a0_2] 60 ?_; clear HB; intro gb116 w23 BK116 GE116 HB; have GW116 := GE116) | ((with_reducible refine gd_ 3 rfl ?_); refine by1_ 3 #[.int .u8 a1_0, .int .i64 a1_1, .int .i64 a1_2, .int .i64 a1_3, .int .i64 a1_4] 35 BK116 ?_; clear HB BK116; intro gb117 w24 BK117 GE117 HB NB116_117 NB117_116 BK116; have hnb25 := NB116_117.out; have hnc25 := NB117_116.out; have hz26 := cz3_ BK116) | ((with_reducible refine gc_ 60 rfl ?_); refine gL_ (some 6) Try.func60 #[.agg #[.slice A0_0 l0_0.length c0_0, .int .i64 a0_1, .int .i64 a0_2]] ?_; (with_reducible refine (task_node.calls _ _ l0_0 a0_1 a0_2 false _ ?side1 ?side2 A3.out).mono ?_); (case side1 => exact cB_ HR0_0); (case side2 => exact HC0_0.out); rintro e w27 ⟨rfl, hb⟩; refine ⟨_, rfl, ?_⟩; replace BK116 := bs_ BK116 hb; replace BK117 := bs_ BK117 hb; replace HB := bB_ hb; (try clear hb)))
  go_ret
  exact ⟨re_, hb_⟩

/-! ### task_asked: function 69 -/
def task_asked.f (k : Nat) (l0_0 : List Int) (a0_1 : Int) (a0_2 : Int) (a1_0 : Int) (a1_1 : Int) (a1_2 : Int) (a1_3 : Int) (a1_4 : Int) (a2 : Bool) : Option (Int) := (task_Check.f k l0_0 a0_1 a0_2 a1_0 a1_1 a1_2 a1_3 a1_4).bind fun t122 => (if t122 = 0 then (if a2 = true then (some 0) else (some 2)) else (some t122))
theorem task_asked.mono : ∀ a0 a1 a2 a3 a4 a5 a6 a7 a8 k, LeO (task_asked.f k a0 a1 a2 a3 a4 a5 a6 a7 a8) (task_asked.f (k + 1) a0 a1 a2 a3 a4 a5 a6 a7 a8) := by
 intro a0 a1 a2 a3 a4 a5 a6 a7 a8 k; unfold task_asked.f
 repeat' first
   | (with_reducible exact LeO.refl _)
   | (with_reducible refine LeO.ite ?_ ?_)
   | (with_reducible refine LeO.bind ?_ (fun _ => ?_))
   | exact task_Check.mono _ _ _ _ _ _ _ _ _
   | exact LeO.none _
   | refine LeO.ite ?_ ?_
   | refine LeO.bind ?_ (fun _ => ?_)
set_option maxHeartbeats 8000000 in
set_option maxRecDepth 100000 in
theorem task_asked.calls (k : Nat) (A0_0 : Option Addr) (c0_0 : Nat) (l0_0 : List Int) (a0_1 : Int) (a0_2 : Int) (a1_0 : Int) (a1_1 : Int) (a1_2 : Int) (a1_3 : Int) (a1_4 : Int) (a2 : Bool) (r : Int) (w : World) (hr0_0 : Kd.C (Kd.int .i64) w A0_0 l0_0.length l0_0) (hc0_0 : l0_0.length ≤ c0_0) (h : task_asked.f k l0_0 a0_1 a0_2 a1_0 a1_1 a1_2 a1_3 a1_4 a2 = some r) :
  Calls Try.prog 69 #[.agg #[.slice A0_0 l0_0.length c0_0, .int .i64 a0_1, .int .i64 a0_2], .agg #[.int .u8 a1_0, .int .i64 a1_1, .int .i64 a1_2, .int .i64 a1_3, .int .i64 a1_4], .bool a2] w fun e w' => e = .returned (.int .i64 r) ∧ Below w.heap.size w w' := by
 have hu60 := Try.underlying60; have hu35 := Try.underlying35; have HR0_0 := A_ hr0_0; have HC0_0 := A_ hc0_0; clear hr0_0 hc0_0; have HB := A_ (Below.refl w.heap.size w); have H : ((task_Check.f k l0_0 a0_1 a0_2 a1_0 a1_1 a1_2 a1_3 a1_4).bind fun t122 => (if t122 = 0 then (if a2 = true then (some 0) else (some 2)) else (some t122))) = some r := h; clear h; replace H := Option.bind_eq_some_iff.mp H; obtain ⟨t122, A40, H⟩ := H; replace H : (if t122 = 0 then (if a2 = true then (some 0) else (some 2)) else (some t122)) = some r := H; have A4 := Aside0.mk A40; clear A40
 by_cases c5 : t122 = 0
 ·
  rw [if_pos c5] at H; have c5b0 : (t122 == 0) = true := beq_iff_eq.mpr c5; have c5b1 : (t122 != 0) = false := bne_eq_false_iff_eq.mpr c5; clear c5
  by_cases c6 : a2 = true
  ·
   subst c6; have H1 : (some 0) = some r := by rw [if_pos rfl] at H; exact H
   clear H; have H := H1; clear H1; obtain rfl := Option.some.inj H
   go_enter Try.func69, Try.ntmps69
   go_wp2_with (first | ((with_reducible refine gd_ 3 rfl ?_); refine by0_ 3 #[.slice A0_0 l0_0.length c0_0, .int .i64 a0_1, .int .i64 a0_2] 60 ?_; clear HB; intro gb120 w7 BK120 GE120 HB; have GW120 := GE120) | ((with_reducible refine gd_ 4 rfl ?_); refine by1_ 4 #[.int .u8 a1_0, .int .i64 a1_1, .int .i64 a1_2, .int .i64 a1_3, .int .i64 a1_4] 35 BK120 ?_; clear HB BK120; intro gb121 w8 BK121 GE121 HB NB120_121 NB121_120 BK120; have hnb9 := NB120_121.out; have hnc9 := NB121_120.out; have hz10 := cz3_ BK120; have hz11 := cz5_ BK121) | ((with_reducible refine gc_ 36 rfl ?_); refine gL_ (some 10) Try.func36 #[.agg #[.slice A0_0 l0_0.length c0_0, .int .i64 a0_1, .int .i64 a0_2], .agg #[.int .u8 a1_0, .int .i64 a1_1, .int .i64 a1_2, .int .i64 a1_3, .int .i64 a1_4]] ?_; (with_reducible refine (task_Check.calls k _ _ l0_0 a0_1 a0_2 a1_0 a1_1 a1_2 a1_3 a1_4 t122 _ ?side1 ?side2 A4.out).mono ?_); (case side1 => exact cB_ HR0_0); (case side2 => exact HC0_0.out); rintro e w12 ⟨rfl, hb⟩; refine ⟨_, rfl, ?_⟩; replace BK120 := bs_ BK120 hb; replace BK121 := bs_ BK121 hb; replace HB := bB_ hb; (try clear hb)))
   go_ret
   exact ⟨re_, hb_⟩
  ·
   replace c6 := Bool.eq_false_iff.mpr c6; subst c6; have H1 : (some 2) = some r := by rw [if_neg (show ¬ (false = true) by decide)] at H; exact H
   clear H; have H := H1; clear H1; obtain rfl := Option.some.inj H
   go_enter Try.func69, Try.ntmps69
   go_wp2_with (first | ((with_reducible refine gd_ 3 rfl ?_); refine by0_ 3 #[.slice A0_0 l0_0.length c0_0, .int .i64 a0_1, .int .i64 a0_2] 60 ?_; clear HB; intro gb120 w13 BK120 GE120 HB; have GW120 := GE120) | ((with_reducible refine gd_ 4 rfl ?_); refine by1_ 4 #[.int .u8 a1_0, .int .i64 a1_1, .int .i64 a1_2, .int .i64 a1_3, .int .i64 a1_4] 35 BK120 ?_; clear HB BK120; intro gb121 w14 BK121 GE121 HB NB120_121 NB121_120 BK120; have hnb15 := NB120_121.out; have hnc15 := NB121_120.out; have hz16 := cz3_ BK120; have hz17 := cz5_ BK121) | ((with_reducible refine gc_ 36 rfl ?_); refine gL_ (some 10) Try.func36 #[.agg #[.slice A0_0 l0_0.length c0_0, .int .i64 a0_1, .int .i64 a0_2], .agg #[.int .u8 a1_0, .int .i64 a1_1, .int .i64 a1_2, .int .i64 a1_3, .int .i64 a1_4]] ?_; (with_reducible refine (task_Check.calls k _ _ l0_0 a0_1 a0_2 a1_0 a1_1 a1_2 a1_3 a1_4 t122 _ ?side1 ?side2 A4.out).mono ?_); (case side1 => exact cB_ HR0_0); (case side2 => exact HC0_0.out); rintro e w18 ⟨rfl, hb⟩; refine ⟨_, rfl, ?_⟩; replace BK120 := bs_ BK120 hb; replace BK121 := bs_ BK121 hb; replace HB := bB_ hb; (try clear hb)))
   go_ret
   exact ⟨re_, hb_⟩
 ·
  rw [if_neg c5] at H; have c5b0 : (t122 == 0) = false := beq_eq_false_iff_ne.mpr c5; have c5b1 : (t122 != 0) = true := bne_iff_ne.mpr c5; obtain rfl := Option.some.inj H
  go_enter Try.func69, Try.ntmps69
  go_wp2_with (first | ((with_reducible refine gd_ 3 rfl ?_); refine by0_ 3 #[.slice A0_0 l0_0.length c0_0, .int .i64 a0_1, .int .i64 a0_2] 60 ?_; clear HB; intro gb120 w19 BK120 GE120 HB; have GW120 := GE120) | ((with_reducible refine gd_ 4 rfl ?_); refine by1_ 4 #[.int .u8 a1_0, .int .i64 a1_1, .int .i64 a1_2, .int .i64 a1_3, .int .i64 a1_4] 35 BK120 ?_; clear HB BK120; intro gb121 w20 BK121 GE121 HB NB120_121 NB121_120 BK120; have hnb21 := NB120_121.out; have hnc21 := NB121_120.out; have hz22 := cz3_ BK120; have hz23 := cz5_ BK121) | ((with_reducible refine gc_ 36 rfl ?_); refine gL_ (some 10) Try.func36 #[.agg #[.slice A0_0 l0_0.length c0_0, .int .i64 a0_1, .int .i64 a0_2], .agg #[.int .u8 a1_0, .int .i64 a1_1, .int .i64 a1_2, .int .i64 a1_3, .int .i64 a1_4]] ?_; (with_reducible refine (task_Check.calls k _ _ l0_0 a0_1 a0_2 a1_0 a1_1 a1_2 a1_3 a1_4 t122 _ ?side1 ?side2 A4.out).mono ?_); (case side1 => exact cB_ HR0_0); (case side2 => exact HC0_0.out); rintro e w24 ⟨rfl, hb⟩; refine ⟨_, rfl, ?_⟩; replace BK120 := bs_ BK120 hb; replace BK121 := bs_ BK121 hb; replace HB := bB_ hb; (try clear hb)))
  go_ret
  exact ⟨re_, hb_⟩

/-! ### task_in: function 54 -/
def task_in.f (k : Nat) (l0_0 : List Int) (a0_1 : Int) (a0_2 : Int) (a1_0 : Int) (a1_1 : Int) (a1_2 : Int) (a1_3 : Int) (a1_4 : Int) (a2 : Bool) (a3 : Int) : Option (Int) := (task_asked.f k l0_0 a0_1 a0_2 a1_0 a1_1 a1_2 a1_3 a1_4 a2).bind fun t125 => (if t125 = 0 then (if a1_0 = a3 then (some 0) else (some 240)) else (some t125))
theorem task_in.mono : ∀ a0 a1 a2 a3 a4 a5 a6 a7 a8 a9 k, LeO (task_in.f k a0 a1 a2 a3 a4 a5 a6 a7 a8 a9) (task_in.f (k + 1) a0 a1 a2 a3 a4 a5 a6 a7 a8 a9) := by
 intro a0 a1 a2 a3 a4 a5 a6 a7 a8 a9 k; unfold task_in.f
 repeat' first
   | (with_reducible exact LeO.refl _)
   | (with_reducible refine LeO.ite ?_ ?_)
   | (with_reducible refine LeO.bind ?_ (fun _ => ?_))
   | exact task_asked.mono _ _ _ _ _ _ _ _ _ _
   | exact LeO.none _
   | refine LeO.ite ?_ ?_
   | refine LeO.bind ?_ (fun _ => ?_)
set_option maxHeartbeats 8000000 in
set_option maxRecDepth 100000 in
theorem task_in.calls (k : Nat) (A0_0 : Option Addr) (c0_0 : Nat) (l0_0 : List Int) (a0_1 : Int) (a0_2 : Int) (a1_0 : Int) (a1_1 : Int) (a1_2 : Int) (a1_3 : Int) (a1_4 : Int) (a2 : Bool) (a3 : Int) (r : Int) (w : World) (hr0_0 : Kd.C (Kd.int .i64) w A0_0 l0_0.length l0_0) (hc0_0 : l0_0.length ≤ c0_0) (h : task_in.f k l0_0 a0_1 a0_2 a1_0 a1_1 a1_2 a1_3 a1_4 a2 a3 = some r) :
  Calls Try.prog 54 #[.agg #[.slice A0_0 l0_0.length c0_0, .int .i64 a0_1, .int .i64 a0_2], .agg #[.int .u8 a1_0, .int .i64 a1_1, .int .i64 a1_2, .int .i64 a1_3, .int .i64 a1_4], .bool a2, .int .u8 a3] w fun e w' => e = .returned (.int .i64 r) ∧ Below w.heap.size w w' := by
 have hu60 := Try.underlying60; have hu35 := Try.underlying35; have HR0_0 := A_ hr0_0; have HC0_0 := A_ hc0_0; clear hr0_0 hc0_0; have HB := A_ (Below.refl w.heap.size w); have H : ((task_asked.f k l0_0 a0_1 a0_2 a1_0 a1_1 a1_2 a1_3 a1_4 a2).bind fun t125 => (if t125 = 0 then (if a1_0 = a3 then (some 0) else (some 240)) else (some t125))) = some r := h; clear h; replace H := Option.bind_eq_some_iff.mp H; obtain ⟨t125, A50, H⟩ := H; replace H : (if t125 = 0 then (if a1_0 = a3 then (some 0) else (some 240)) else (some t125)) = some r := H; have A5 := Aside0.mk A50; clear A50
 by_cases c6 : t125 = 0
 ·
  rw [if_pos c6] at H; have c6b0 : (t125 == 0) = true := beq_iff_eq.mpr c6; have c6b1 : (t125 != 0) = false := bne_eq_false_iff_eq.mpr c6; clear c6
  by_cases c7 : a1_0 = a3
  ·
   rw [if_pos c7] at H; have c7b0 : (a1_0 == a3) = true := beq_iff_eq.mpr c7; have c7b1 : (a1_0 != a3) = false := bne_eq_false_iff_eq.mpr c7; clear c7; obtain rfl := Option.some.inj H
   go_enter Try.func54, Try.ntmps54
   go_wp2_with (first | ((with_reducible refine gd_ 4 rfl ?_); refine by0_ 4 #[.slice A0_0 l0_0.length c0_0, .int .i64 a0_1, .int .i64 a0_2] 60 ?_; clear HB; intro gb123 w8 BK123 GE123 HB; have GW123 := GE123) | ((with_reducible refine gd_ 5 rfl ?_); refine by1_ 5 #[.int .u8 a1_0, .int .i64 a1_1, .int .i64 a1_2, .int .i64 a1_3, .int .i64 a1_4] 35 BK123 ?_; clear HB BK123; intro gb124 w9 BK124 GE124 HB NB123_124 NB124_123 BK123; have hnb10 := NB123_124.out; have hnc10 := NB124_123.out; have hz11 := cz3_ BK123; have hz12 := cz5_ BK124) | ((with_reducible refine gc_ 69 rfl ?_); refine gL_ (some 13) Try.func69 #[.agg #[.slice A0_0 l0_0.length c0_0, .int .i64 a0_1, .int .i64 a0_2], .agg #[.int .u8 a1_0, .int .i64 a1_1, .int .i64 a1_2, .int .i64 a1_3, .int .i64 a1_4], .bool a2] ?_; (with_reducible refine (task_asked.calls k _ _ l0_0 a0_1 a0_2 a1_0 a1_1 a1_2 a1_3 a1_4 a2 t125 _ ?side1 ?side2 A5.out).mono ?_); (case side1 => exact cB_ HR0_0); (case side2 => exact HC0_0.out); rintro e w13 ⟨rfl, hb⟩; refine ⟨_, rfl, ?_⟩; replace BK123 := bs_ BK123 hb; replace BK124 := bs_ BK124 hb; replace HB := bB_ hb; (try clear hb); have hz14 := cz5_ BK124))
   go_ret
   exact ⟨re_, hb_⟩
  ·
   rw [if_neg c7] at H; have c7b0 : (a1_0 == a3) = false := beq_eq_false_iff_ne.mpr c7; have c7b1 : (a1_0 != a3) = true := bne_iff_ne.mpr c7; obtain rfl := Option.some.inj H
   go_enter Try.func54, Try.ntmps54
   go_wp2_with (first | ((with_reducible refine gd_ 4 rfl ?_); refine by0_ 4 #[.slice A0_0 l0_0.length c0_0, .int .i64 a0_1, .int .i64 a0_2] 60 ?_; clear HB; intro gb123 w15 BK123 GE123 HB; have GW123 := GE123) | ((with_reducible refine gd_ 5 rfl ?_); refine by1_ 5 #[.int .u8 a1_0, .int .i64 a1_1, .int .i64 a1_2, .int .i64 a1_3, .int .i64 a1_4] 35 BK123 ?_; clear HB BK123; intro gb124 w16 BK124 GE124 HB NB123_124 NB124_123 BK123; have hnb17 := NB123_124.out; have hnc17 := NB124_123.out; have hz18 := cz3_ BK123; have hz19 := cz5_ BK124) | ((with_reducible refine gc_ 69 rfl ?_); refine gL_ (some 13) Try.func69 #[.agg #[.slice A0_0 l0_0.length c0_0, .int .i64 a0_1, .int .i64 a0_2], .agg #[.int .u8 a1_0, .int .i64 a1_1, .int .i64 a1_2, .int .i64 a1_3, .int .i64 a1_4], .bool a2] ?_; (with_reducible refine (task_asked.calls k _ _ l0_0 a0_1 a0_2 a1_0 a1_1 a1_2 a1_3 a1_4 a2 t125 _ ?side1 ?side2 A5.out).mono ?_); (case side1 => exact cB_ HR0_0); (case side2 => exact HC0_0.out); rintro e w20 ⟨rfl, hb⟩; refine ⟨_, rfl, ?_⟩; replace BK123 := bs_ BK123 hb; replace BK124 := bs_ BK124 hb; replace HB := bB_ hb; (try clear hb); have hz21 := cz5_ BK124))
   go_ret
   exact ⟨re_, hb_⟩
 ·
  rw [if_neg c6] at H; have c6b0 : (t125 == 0) = false := beq_eq_false_iff_ne.mpr c6; have c6b1 : (t125 != 0) = true := bne_iff_ne.mpr c6; obtain rfl := Option.some.inj H
  go_enter Try.func54, Try.ntmps54
  go_wp2_with (first | ((with_reducible refine gd_ 4 rfl ?_); refine by0_ 4 #[.slice A0_0 l0_0.length c0_0, .int .i64 a0_1, .int .i64 a0_2] 60 ?_; clear HB; intro gb123 w22 BK123 GE123 HB; have GW123 := GE123) | ((with_reducible refine gd_ 5 rfl ?_); refine by1_ 5 #[.int .u8 a1_0, .int .i64 a1_1, .int .i64 a1_2, .int .i64 a1_3, .int .i64 a1_4] 35 BK123 ?_; clear HB BK123; intro gb124 w23 BK124 GE124 HB NB123_124 NB124_123 BK123; have hnb24 := NB123_124.out; have hnc24 := NB124_123.out; have hz25 := cz3_ BK123; have hz26 := cz5_ BK124) | ((with_reducible refine gc_ 69 rfl ?_); refine gL_ (some 13) Try.func69 #[.agg #[.slice A0_0 l0_0.length c0_0, .int .i64 a0_1, .int .i64 a0_2], .agg #[.int .u8 a1_0, .int .i64 a1_1, .int .i64 a1_2, .int .i64 a1_3, .int .i64 a1_4], .bool a2] ?_; (with_reducible refine (task_asked.calls k _ _ l0_0 a0_1 a0_2 a1_0 a1_1 a1_2 a1_3 a1_4 a2 t125 _ ?side1 ?side2 A5.out).mono ?_); (case side1 => exact cB_ HR0_0); (case side2 => exact HC0_0.out); rintro e w27 ⟨rfl, hb⟩; refine ⟨_, rfl, ?_⟩; replace BK123 := bs_ BK123 hb; replace BK124 := bs_ BK124 hb; replace HB := bB_ hb; (try clear hb)))
  go_ret
  exact ⟨re_, hb_⟩

end Go.Proofs.Ytbiphljdommacaa.R

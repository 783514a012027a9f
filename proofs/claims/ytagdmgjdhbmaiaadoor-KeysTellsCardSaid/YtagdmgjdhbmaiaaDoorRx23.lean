/- Contracts of Go functions and what they come to, over the translation of this seat: made by a program of this session (print2.py). -/
import Derived.Test.YtagdmgjdhbmaiaaDoorRx0
import Derived.Test.YtagdmgjdhbmaiaaDoorRx4
import Derived.Test.YtagdmgjdhbmaiaaDoorRx22
namespace Go.Proofs.YtagdmgjdhbmaiaaDoor.R
open Go.RowKit Go.Proofs.YtagdmgjdhbmaiaaDoor.Co Go.Proofs.YtagdmgjdhbmaiaaDoor.Ret Go.Proofs.YtagdmgjdhbmaiaaDoor.Plain Go.Proofs.YtagdmgjdhbmaiaaDoor.Box Go.Proofs.YtagdmgjdhbmaiaaDoorW.PrintWords Go.Proofs.YtagdmgjdhbmaiaaDoorW.PrintLast Go.Proofs.YtagdmgjdhbmaiaaDoorW.PrintMore
attribute [local go_sem] max2_int min2_int max_two min_two max_three min_three max_four min_four   -- for this text's walks alone
set_option linter.unusedVariables false
set_option linter.unusedSimpArgs false

/-! ### keys_Of: function 34 -/
mutual
def keys_Of.j0 : Nat → Int → ByteArray → List (S50) → Bool → Option (Int × Int × ByteArray × Int)
 | 0, _, _, _, _ => none
 | k + 1, x3, x4, x6, x22 => if x22 = true then (some (0, 0, (⟨#[]⟩ : ByteArray), 8)) else (if 0 < (x6.length : Int) then (if ((rd_T50 x6 0).f2).toList = ([101] : List UInt8) then ((keys_number.f x6 1).bind fun bt507 => (if bt507.2 = true then (some (1, bt507.1, x4, 0)) else (some (0, 0, (⟨#[]⟩ : ByteArray), 8)))) else (if ((rd_T50 x6 0).f2).toList = ([104] : List UInt8) then (if ((x6.length : Int) = 1) then (some (2, x3, x4, 0)) else (some (0, 0, (⟨#[]⟩ : ByteArray), 8))) else (if ((rd_T50 x6 0).f2).toList = ([107] : List UInt8) then (if (x6.length : Int) = 2 then (if 1 < (x6.length : Int) then (if (rd_T50 x6 1).f0 = true then (if (((rd_T50 x6 1).f2).size : Int) ≥ 1 then (keys_Of.j1 k 3 x3 x6 (decide ((((rd_T50 x6 1).f2).size : Int) ≤ 24))) else (keys_Of.j1 k 3 x3 x6 false)) else (keys_Of.j1 k 3 x3 x6 false)) else (none)) else (keys_Of.j1 k 3 x3 x6 false)) else (if ((rd_T50 x6 0).f2).toList = ([114] : List UInt8) then ((keys_number.f x6 0).bind fun bt513 => (if bt513.2 = true then (some (4, bt513.1, x4, 0)) else (some (0, 0, (⟨#[]⟩ : ByteArray), 8)))) else (some (0, 0, (⟨#[]⟩ : ByteArray), 8)))))) else (none))
def keys_Of.j1 : Nat → Int → Int → List (S50) → Bool → Option (Int × Int × ByteArray × Int)
 | 0, _, _, _, _ => none
 | k + 1, x2, x3, x6, x8 => if x8 = true then (if 1 < (x6.length : Int) then (some (x2, x3, (rd_T50 x6 1).f2, 0)) else (none)) else (some (0, 0, (⟨#[]⟩ : ByteArray), 8))
end
def keys_Of.f (k : Nat) (a0 : ByteArray) : Option (Int × Int × ByteArray × Int) := (code_Parts.f k a0).bind fun bt501 => (if bt501.2 = 0 then (if 0 < (bt501.1.length : Int) then (keys_Of.j0 k 0 (⟨#[]⟩ : ByteArray) bt501.1 (!((rd_T50 bt501.1 0).f0))) else (none)) else (keys_Of.j0 k 0 (⟨#[]⟩ : ByteArray) bt501.1 true))
theorem keys_Of.mono_l : ∀ k, (∀ y0 y1 y2 y3, LeO (keys_Of.j0 k y0 y1 y2 y3) (keys_Of.j0 (k + 1) y0 y1 y2 y3)) ∧ (∀ y0 y1 y2 y3, LeO (keys_Of.j1 k y0 y1 y2 y3) (keys_Of.j1 (k + 1) y0 y1 y2 y3))
 | 0 => ⟨fun _ _ _ _ r h => by simp [keys_Of.j0] at h, fun _ _ _ _ r h => by simp [keys_Of.j1] at h⟩
 | k + 1 => by
  obtain ⟨ih0, ih1⟩ := keys_Of.mono_l k
  refine ⟨?_, ?_⟩
  ·
   intro y0 y1 y2 y3
   unfold keys_Of.j0
   repeat' first
   | (with_reducible exact ih0 _ _ _ _)
   | (with_reducible exact ih1 _ _ _ _)
   | (with_reducible exact code_Parts.mono _ _)
   | (with_reducible exact LeO.refl _)
   | (with_reducible exact LeO.none _)
   | (with_reducible refine LeO.ite ?_ ?_)
   | (with_reducible refine LeO.bind ?_ (fun _ => ?_))
   | exact ih0 _ _ _ _
   | exact ih1 _ _ _ _
   | exact code_Parts.mono _ _
   | exact LeO.none _
   | refine LeO.ite ?_ ?_
   | refine LeO.bind ?_ (fun _ => ?_)
  ·
   intro y0 y1 y2 y3
   unfold keys_Of.j1
   repeat' first
   | (with_reducible exact ih0 _ _ _ _)
   | (with_reducible exact ih1 _ _ _ _)
   | (with_reducible exact code_Parts.mono _ _)
   | (with_reducible exact LeO.refl _)
   | (with_reducible exact LeO.none _)
   | (with_reducible refine LeO.ite ?_ ?_)
   | (with_reducible refine LeO.bind ?_ (fun _ => ?_))
   | exact ih0 _ _ _ _
   | exact ih1 _ _ _ _
   | exact code_Parts.mono _ _
   | exact LeO.none _
   | refine LeO.ite ?_ ?_
   | refine LeO.bind ?_ (fun _ => ?_)
theorem keys_Of.mono : ∀ a0 k, LeO (keys_Of.f k a0) (keys_Of.f (k + 1) a0) := by
 intro a0 k
 obtain ⟨ih0, ih1⟩ := keys_Of.mono_l k
 unfold keys_Of.f
 repeat' first
   | (with_reducible exact ih0 _ _ _ _)
   | (with_reducible exact ih1 _ _ _ _)
   | (with_reducible exact code_Parts.mono _ _)
   | (with_reducible exact LeO.refl _)
   | (with_reducible exact LeO.none _)
   | (with_reducible refine LeO.ite ?_ ?_)
   | (with_reducible refine LeO.bind ?_ (fun _ => ?_))
   | exact ih0 _ _ _ _
   | exact ih1 _ _ _ _
   | exact code_Parts.mono _ _
   | exact LeO.none _
   | refine LeO.ite ?_ ?_
   | refine LeO.bind ?_ (fun _ => ?_)
set_option maxHeartbeats 8000000 in
set_option maxRecDepth 100000 in
theorem keys_Of.calls (k : Nat) (a0 : ByteArray) (r1 : Int) (r2 : Int) (r3 : ByteArray) (r4 : Int) (w : World) (h : keys_Of.f k a0 = some (r1, r2, r3, r4)) :
  Calls Tryd.prog 34 #[.string a0] w fun e w' => e = .returned (.tuple #[.int .u8 r1, .int .i64 r2, .string r3, .int .i64 r4]) ∧ Below w.heap.size w w' := by
 have HB := Aside0.mk (Below.refl w.heap.size w)
 have H : ((code_Parts.f k a0).bind fun bt501 => (if bt501.2 = 0 then (if 0 < (bt501.1.length : Int) then (keys_Of.j0 k 0 (⟨#[]⟩ : ByteArray) bt501.1 (!((rd_T50 bt501.1 0).f0))) else (none)) else (keys_Of.j0 k 0 (⟨#[]⟩ : ByteArray) bt501.1 true))) = some (r1, r2, r3, r4) := h
 clear h
 replace H := Option.bind_eq_some_iff.mp H
 obtain ⟨⟨t501, t502⟩, A20, H⟩ := H
 replace H : (if t502 = 0 then (if 0 < (t501.length : Int) then (keys_Of.j0 k 0 (⟨#[]⟩ : ByteArray) t501 (!((rd_T50 t501 0).f0))) else (none)) else (keys_Of.j0 k 0 (⟨#[]⟩ : ByteArray) t501 true)) = some (r1, r2, r3, r4) := H
 have A2 := Aside0.mk A20
 clear A20
 have HC3 := Aside0.mk H
 clear H
 go_enter Tryd.func34, Tryd.ntmps34
 go_upto_region 2 with (first | (go_at_call 17; (with_reducible refine (code_Parts.calls k a0 t501 t502 _ A2.out).mono ?_); rintro e w4 ⟨v503, rfl, ho0, hb⟩; have n0_ := Aside0.mk (Kd.R_lower ho0 (below_size (by repeat (first | (with_reducible first | exact HB.out | apply below_alloc | apply pw_below_drewN | apply below_drew1) | exact HB.out)))); have n1_ := Aside0.mk (below_step (by repeat (first | (with_reducible first | exact HB.out | apply below_alloc | apply pw_below_drewN | apply below_drew1) | exact HB.out)) hb); clear HB; have HO504 := n0_; have HB := n1_; clear n0_ n1_; (try clear hb); (try clear hb2); (try clear hk); (try clear hi); (try clear ho0)))
 repeat (go_quiet (first | (go_at_call 17; (with_reducible refine (code_Parts.calls k a0 t501 t502 _ A2.out).mono ?_); rintro e w4 ⟨v503, rfl, ho0, hb⟩; have n0_ := Aside0.mk (Kd.R_lower ho0 (below_size (by repeat (first | (with_reducible first | exact HB.out | apply below_alloc | apply pw_below_drewN | apply below_drew1) | exact HB.out)))); have n1_ := Aside0.mk (below_step (by repeat (first | (with_reducible first | exact HB.out | apply below_alloc | apply pw_below_drewN | apply below_drew1) | exact HB.out)) hb); clear HB; have HO504 := n0_; have HB := n1_; clear n0_ n1_; (try clear hb); (try clear hb2); (try clear hk); (try clear hi); (try clear ho0))); go_upto_region 2 with (first | (go_at_call 17; (with_reducible refine (code_Parts.calls k a0 t501 t502 _ A2.out).mono ?_); rintro e w4 ⟨v503, rfl, ho0, hb⟩; have n0_ := Aside0.mk (Kd.R_lower ho0 (below_size (by repeat (first | (with_reducible first | exact HB.out | apply below_alloc | apply pw_below_drewN | apply below_drew1) | exact HB.out)))); have n1_ := Aside0.mk (below_step (by repeat (first | (with_reducible first | exact HB.out | apply below_alloc | apply pw_below_drewN | apply below_drew1) | exact HB.out)) hb); clear HB; have HO504 := n0_; have HB := n1_; clear n0_ n1_; (try clear hb); (try clear hb2); (try clear hk); (try clear hi); (try clear ho0))))
 (try simp only [Act.put, sa_, s0_, s1_])
 go_cut [22] (fun v22 wc => ∃ (kq : Nat) (x22_2 : Bool), v22 = .bool x22_2 ∧ Aside0 (keys_Of.j0 kq 0 (⟨#[]⟩ : ByteArray) t501 x22_2 = some (r1, r2, r3, r4)) ∧ Aside0 (kq ≤ k) ∧ Aside0 (Kd.R k50 50 wc w.heap.size (fun _ => True) v503 t501) ∧ Aside0 (Below w.heap.size w wc))
 case first =>
  have H := HC3.out
  clear HC3
  by_cases c5 : t502 = 0
  ·
   rw [if_pos c5] at H
   have c5b0 : (t502 == 0) = true := beq_iff_eq.mpr c5
   have c5b1 : (t502 != 0) = false := bne_eq_false_iff_eq.mpr c5
   clear c5
   (first | rw [c5b0] | (simp only [i64_w, i32_w]; rw [c5b0]) | skip)
   by_cases c6 : 0 < (t501.length : Int)
   ·
    rw [if_pos c6] at H
    have c6b0 : decide (0 < (t501.length : Int)) = true := decide_eq_true c6
    have c6b1 : decide (0 < t501.length) = true := decide_eq_true (by omega)
    clear c6
    have H' := Aside0.mk H
    clear H
    obtain ⟨Ao7, co7, eo7⟩ := Kd.R_slice HO504.out
    subst eo7
    have p505 : 0 ≤ (0 : Int) := (by omega)
    have q505 : 0 < (t501.length : Int) := of_decide_eq_true (by first | (with_reducible assumption) | assumption)
    obtain ⟨ad505, e505, hx505_0, hx505_1, hx505_2⟩ := at_T50 (Kd.R_reads' HO504.out).2.2 0 p505 q505
    cases e505
    have qi505 : (0 < t501.length) = True := eq_true (by omega)
    (try rw [show ((0 : Int)).toNat = 0 from rfl] at hx505_0)
    (try rw [show 0 * 3 = 0 from rfl] at hx505_0)
    (try rw [Addr.add_zero'] at hx505_0)
    (try rw [show ((0 : Int)).toNat = 0 from rfl] at hx505_1)
    (try rw [show 0 * 3 = 0 from rfl] at hx505_1)
    (try rw [Addr.add_zero'] at hx505_1)
    (try rw [show ((0 : Int)).toNat = 0 from rfl] at hx505_2)
    (try rw [show 0 * 3 = 0 from rfl] at hx505_2)
    (try rw [Addr.add_zero'] at hx505_2)
    replace p505 := eq_true p505
    replace q505 := eq_true q505
    go_wp2
    repeat (go_quiet (fail); try go_wp2)
    go_meet
    case rel => exact ⟨_, (!((rd_T50 t501 0).f0)), (by first | rfl | (simp; done) | (simp [*]; done)), H', ⟨by first | omega | exact Nat.le_refl _⟩, ⟨by (with_reducible repeat (first | apply Kd.R_alloc | apply Kd.R_drewN | apply Kd.R_drew)); exact HO504.out⟩, ⟨by repeat (first | (with_reducible first | exact HB.out | apply below_alloc | apply pw_below_drewN | apply below_drew1) | exact HB.out)⟩⟩
   ·
    rw [if_neg c6] at H
    exact absurd H (by simp)
  ·
   rw [if_neg c5] at H
   have c5b0 : (t502 == 0) = false := beq_eq_false_iff_ne.mpr c5
   have c5b1 : (t502 != 0) = true := bne_iff_ne.mpr c5
   (first | rw [c5b0] | (simp only [i64_w, i32_w]; rw [c5b0]) | skip)
   have H' := Aside0.mk H
   clear H
   go_wp2
   repeat (go_quiet (fail); try go_wp2)
   go_meet
   case rel => exact ⟨_, (true), (by first | rfl | (simp; done) | (simp [*]; done)), H', ⟨by first | omega | exact Nat.le_refl _⟩, ⟨by (with_reducible repeat (first | apply Kd.R_alloc | apply Kd.R_drewN | apply Kd.R_drew)); exact HO504.out⟩, ⟨by repeat (first | (with_reducible first | exact HB.out | apply below_alloc | apply pw_below_drewN | apply below_drew1) | exact HB.out)⟩⟩
 case rest =>
  clear HC3
  try clear p2
  try clear c3
  try clear c5
  try clear c5b0
  try clear c5b1
  try clear p5
  try clear q5
  try clear hx5
  try clear qi5
  try clear c6
  try clear c6b0
  try clear c6b1
  try clear hx505_0
  try clear hx505_1
  try clear hx505_2
  try clear p505
  try clear q505
  obtain ⟨kq, x22_2, rfl, HA, HJ2, HO_6, HB⟩ := hcut
  cases kq with
  | zero => exact absurd HA.out (by simp [keys_Of.j0])
  | succ kj2 =>
   have H := HA.out
   clear HA
   simp only [keys_Of.j0] at H
   by_cases c8 : x22_2 = true
   ·
    subst c8
    have H1 : (some (0, 0, (⟨#[]⟩ : ByteArray), 8)) = some (r1, r2, r3, r4) := by rw [if_pos rfl] at H; exact H
    clear H
    have H := H1
    clear H1
    simp only [Option.some.injEq, Prod.mk.injEq] at H
    obtain ⟨rfl, rfl, rfl, rfl⟩ := H
    go_wp2
    repeat (go_quiet (fail); try go_wp2)
    refine bodyPost_ret (results_list (rs := [.tmp 2, .tmp 3, .tmp 4, .tmp 5]) rfl (by simp) (.tmp (.tmp (.tmp (.tmp .nil))))) rfl ?_
    exact ⟨by first | rfl | (simp [errW_none, errW_some] <;> rfl) | (simp [*, errW_none, errW_some] <;> rfl) | exact ret_ie _ | (simp [*, errW_none, errW_some, bne]; done), by repeat (first | (with_reducible first | exact HB.out | apply below_alloc | apply pw_below_drewN | apply below_drew1) | exact HB.out)⟩
   ·
    replace c8 := Bool.eq_false_iff.mpr c8
    subst c8
    have H1 : (if 0 < (t501.length : Int) then (if ((rd_T50 t501 0).f2).toList = ([101] : List UInt8) then ((keys_number.f t501 1).bind fun bt507 => (if bt507.2 = true then (some (1, bt507.1, (⟨#[]⟩ : ByteArray), 0)) else (some (0, 0, (⟨#[]⟩ : ByteArray), 8)))) else (if ((rd_T50 t501 0).f2).toList = ([104] : List UInt8) then (if ((t501.length : Int) = 1) then (some (2, 0, (⟨#[]⟩ : ByteArray), 0)) else (some (0, 0, (⟨#[]⟩ : ByteArray), 8))) else (if ((rd_T50 t501 0).f2).toList = ([107] : List UInt8) then (if (t501.length : Int) = 2 then (if 1 < (t501.length : Int) then (if (rd_T50 t501 1).f0 = true then (if (((rd_T50 t501 1).f2).size : Int) ≥ 1 then (keys_Of.j1 kj2 3 0 t501 (decide ((((rd_T50 t501 1).f2).size : Int) ≤ 24))) else (keys_Of.j1 kj2 3 0 t501 false)) else (keys_Of.j1 kj2 3 0 t501 false)) else (none)) else (keys_Of.j1 kj2 3 0 t501 false)) else (if ((rd_T50 t501 0).f2).toList = ([114] : List UInt8) then ((keys_number.f t501 0).bind fun bt513 => (if bt513.2 = true then (some (4, bt513.1, (⟨#[]⟩ : ByteArray), 0)) else (some (0, 0, (⟨#[]⟩ : ByteArray), 8)))) else (some (0, 0, (⟨#[]⟩ : ByteArray), 8)))))) else (none)) = some (r1, r2, r3, r4) := by rw [if_neg (show ¬ (false = true) by decide)] at H; exact H
    clear H
    have H := H1
    clear H1
    by_cases c9 : 0 < (t501.length : Int)
    ·
     rw [if_pos c9] at H
     have c9b0 : decide (0 < (t501.length : Int)) = true := decide_eq_true c9
     have c9b1 : decide (0 < t501.length) = true := decide_eq_true (by omega)
     clear c9
     by_cases c10 : ((rd_T50 t501 0).f2).toList = ([101] : List UInt8)
     ·
      rw [if_pos c10] at H
      have c10b0 : (((rd_T50 t501 0).f2).toList == ([101] : List UInt8)) = true := beq_iff_eq.mpr c10
      have c10b1 : (((rd_T50 t501 0).f2).toList != ([101] : List UInt8)) = false := bne_eq_false_iff_eq.mpr c10
      clear c10
      replace H := Option.bind_eq_some_iff.mp H
      obtain ⟨⟨t507, t508⟩, A110, H⟩ := H
      replace H : (if t508 = true then (some (1, t507, (⟨#[]⟩ : ByteArray), 0)) else (some (0, 0, (⟨#[]⟩ : ByteArray), 8))) = some (r1, r2, r3, r4) := H
      have A11 := Aside0.mk A110
      clear A110
      by_cases c12 : t508 = true
      ·
       subst c12
       have H1 : (some (1, t507, (⟨#[]⟩ : ByteArray), 0)) = some (r1, r2, r3, r4) := by rw [if_pos rfl] at H; exact H
       clear H
       have H := H1
       clear H1
       simp only [Option.some.injEq, Prod.mk.injEq] at H
       obtain ⟨rfl, rfl, rfl, rfl⟩ := H
       obtain ⟨Ao13, co13, eo13⟩ := Kd.R_slice HO_6.out
       subst eo13
       have p506 : 0 ≤ (0 : Int) := (by omega)
       have q506 : 0 < (t501.length : Int) := of_decide_eq_true (by first | (with_reducible assumption) | assumption)
       obtain ⟨ad506, e506, hx506_0, hx506_1, hx506_2⟩ := at_T50 (Kd.R_reads' HO_6.out).2.2 0 p506 q506
       cases e506
       have qi506 : (0 < t501.length) = True := eq_true (by omega)
       (try rw [show ((0 : Int)).toNat = 0 from rfl] at hx506_0)
       (try rw [show 0 * 3 = 0 from rfl] at hx506_0)
       (try rw [Addr.add_zero'] at hx506_0)
       (try rw [show ((0 : Int)).toNat = 0 from rfl] at hx506_1)
       (try rw [show 0 * 3 = 0 from rfl] at hx506_1)
       (try rw [Addr.add_zero'] at hx506_1)
       (try rw [show ((0 : Int)).toNat = 0 from rfl] at hx506_2)
       (try rw [show 0 * 3 = 0 from rfl] at hx506_2)
       (try rw [Addr.add_zero'] at hx506_2)
       replace p506 := eq_true p506
       replace q506 := eq_true q506
       go_wp2_with (first | (go_at_call 51; (with_reducible refine (keys_number.calls _ _ t501 1 t507 true _ ?side1 ?side2 A11.out).mono ?_); (case side1 => repeat (first | exact (Kd.R_reads' HO_6.out).2.2 | (with_reducible refine Kd.C_alloc ?_ _) | (with_reducible refine Kd.C_drewN ?_ _) | (with_reducible refine Kd.C_drew ?_))); (case side2 => exact (Kd.R_reads' HO_6.out).2.1); rintro e w' ⟨rfl, ⟨nd, rfl⟩⟩; (try first | exact ⟨rfl, _, World.drewN_drewN _ _ _⟩ | exact ⟨rfl, _, Eq.trans (World.drewN_drewN _ _ _) (congrArg (World.drewN _) (Nat.add_assoc _ _ _))⟩)))
       repeat (go_quiet (first | (go_at_call 51; (with_reducible refine (keys_number.calls _ _ t501 1 t507 true _ ?side1 ?side2 A11.out).mono ?_); (case side1 => repeat (first | exact (Kd.R_reads' HO_6.out).2.2 | (with_reducible refine Kd.C_alloc ?_ _) | (with_reducible refine Kd.C_drewN ?_ _) | (with_reducible refine Kd.C_drew ?_))); (case side2 => exact (Kd.R_reads' HO_6.out).2.1); rintro e w' ⟨rfl, ⟨nd, rfl⟩⟩; (try first | exact ⟨rfl, _, World.drewN_drewN _ _ _⟩ | exact ⟨rfl, _, Eq.trans (World.drewN_drewN _ _ _) (congrArg (World.drewN _) (Nat.add_assoc _ _ _))⟩))); try go_wp2_with (first | (go_at_call 51; (with_reducible refine (keys_number.calls _ _ t501 1 t507 true _ ?side1 ?side2 A11.out).mono ?_); (case side1 => repeat (first | exact (Kd.R_reads' HO_6.out).2.2 | (with_reducible refine Kd.C_alloc ?_ _) | (with_reducible refine Kd.C_drewN ?_ _) | (with_reducible refine Kd.C_drew ?_))); (case side2 => exact (Kd.R_reads' HO_6.out).2.1); rintro e w' ⟨rfl, ⟨nd, rfl⟩⟩; (try first | exact ⟨rfl, _, World.drewN_drewN _ _ _⟩ | exact ⟨rfl, _, Eq.trans (World.drewN_drewN _ _ _) (congrArg (World.drewN _) (Nat.add_assoc _ _ _))⟩))))
       refine bodyPost_ret (results_list (rs := [.tmp 2, .tmp 3, .tmp 4, .tmp 5]) rfl (by simp) (.tmp (.tmp (.tmp (.tmp .nil))))) rfl ?_
       exact ⟨by first | rfl | (simp [errW_none, errW_some] <;> rfl) | (simp [*, errW_none, errW_some] <;> rfl) | exact ret_ie _ | (simp [*, errW_none, errW_some, bne]; done), by repeat (first | (with_reducible first | exact HB.out | apply below_alloc | apply pw_below_drewN | apply below_drew1) | exact HB.out)⟩
      ·
       replace c12 := Bool.eq_false_iff.mpr c12
       subst c12
       have H1 : (some (0, 0, (⟨#[]⟩ : ByteArray), 8)) = some (r1, r2, r3, r4) := by rw [if_neg (show ¬ (false = true) by decide)] at H; exact H
       clear H
       have H := H1
       clear H1
       simp only [Option.some.injEq, Prod.mk.injEq] at H
       obtain ⟨rfl, rfl, rfl, rfl⟩ := H
       obtain ⟨Ao14, co14, eo14⟩ := Kd.R_slice HO_6.out
       subst eo14
       have p506 : 0 ≤ (0 : Int) := (by omega)
       have q506 : 0 < (t501.length : Int) := of_decide_eq_true (by first | (with_reducible assumption) | assumption)
       obtain ⟨ad506, e506, hx506_0, hx506_1, hx506_2⟩ := at_T50 (Kd.R_reads' HO_6.out).2.2 0 p506 q506
       cases e506
       have qi506 : (0 < t501.length) = True := eq_true (by omega)
       (try rw [show ((0 : Int)).toNat = 0 from rfl] at hx506_0)
       (try rw [show 0 * 3 = 0 from rfl] at hx506_0)
       (try rw [Addr.add_zero'] at hx506_0)
       (try rw [show ((0 : Int)).toNat = 0 from rfl] at hx506_1)
       (try rw [show 0 * 3 = 0 from rfl] at hx506_1)
       (try rw [Addr.add_zero'] at hx506_1)
       (try rw [show ((0 : Int)).toNat = 0 from rfl] at hx506_2)
       (try rw [show 0 * 3 = 0 from rfl] at hx506_2)
       (try rw [Addr.add_zero'] at hx506_2)
       replace p506 := eq_true p506
       replace q506 := eq_true q506
       go_wp2_with (first | (go_at_call 51; (with_reducible refine (keys_number.calls _ _ t501 1 t507 false _ ?side1 ?side2 A11.out).mono ?_); (case side1 => repeat (first | exact (Kd.R_reads' HO_6.out).2.2 | (with_reducible refine Kd.C_alloc ?_ _) | (with_reducible refine Kd.C_drewN ?_ _) | (with_reducible refine Kd.C_drew ?_))); (case side2 => exact (Kd.R_reads' HO_6.out).2.1); rintro e w' ⟨rfl, ⟨nd, rfl⟩⟩; (try first | exact ⟨rfl, _, World.drewN_drewN _ _ _⟩ | exact ⟨rfl, _, Eq.trans (World.drewN_drewN _ _ _) (congrArg (World.drewN _) (Nat.add_assoc _ _ _))⟩)))
       repeat (go_quiet (first | (go_at_call 51; (with_reducible refine (keys_number.calls _ _ t501 1 t507 false _ ?side1 ?side2 A11.out).mono ?_); (case side1 => repeat (first | exact (Kd.R_reads' HO_6.out).2.2 | (with_reducible refine Kd.C_alloc ?_ _) | (with_reducible refine Kd.C_drewN ?_ _) | (with_reducible refine Kd.C_drew ?_))); (case side2 => exact (Kd.R_reads' HO_6.out).2.1); rintro e w' ⟨rfl, ⟨nd, rfl⟩⟩; (try first | exact ⟨rfl, _, World.drewN_drewN _ _ _⟩ | exact ⟨rfl, _, Eq.trans (World.drewN_drewN _ _ _) (congrArg (World.drewN _) (Nat.add_assoc _ _ _))⟩))); try go_wp2_with (first | (go_at_call 51; (with_reducible refine (keys_number.calls _ _ t501 1 t507 false _ ?side1 ?side2 A11.out).mono ?_); (case side1 => repeat (first | exact (Kd.R_reads' HO_6.out).2.2 | (with_reducible refine Kd.C_alloc ?_ _) | (with_reducible refine Kd.C_drewN ?_ _) | (with_reducible refine Kd.C_drew ?_))); (case side2 => exact (Kd.R_reads' HO_6.out).2.1); rintro e w' ⟨rfl, ⟨nd, rfl⟩⟩; (try first | exact ⟨rfl, _, World.drewN_drewN _ _ _⟩ | exact ⟨rfl, _, Eq.trans (World.drewN_drewN _ _ _) (congrArg (World.drewN _) (Nat.add_assoc _ _ _))⟩))))
       refine bodyPost_ret (results_list (rs := [.tmp 2, .tmp 3, .tmp 4, .tmp 5]) rfl (by simp) (.tmp (.tmp (.tmp (.tmp .nil))))) rfl ?_
       exact ⟨by first | rfl | (simp [errW_none, errW_some] <;> rfl) | (simp [*, errW_none, errW_some] <;> rfl) | exact ret_ie _ | (simp [*, errW_none, errW_some, bne]; done), by repeat (first | (with_reducible first | exact HB.out | apply below_alloc | apply pw_below_drewN | apply below_drew1) | exact HB.out)⟩
     ·
      rw [if_neg c10] at H
      have c10b0 : (((rd_T50 t501 0).f2).toList == ([101] : List UInt8)) = false := beq_eq_false_iff_ne.mpr c10
      have c10b1 : (((rd_T50 t501 0).f2).toList != ([101] : List UInt8)) = true := bne_iff_ne.mpr c10
      by_cases c15 : ((rd_T50 t501 0).f2).toList = ([104] : List UInt8)
      ·
       rw [if_pos c15] at H
       have c15b0 : (((rd_T50 t501 0).f2).toList == ([104] : List UInt8)) = true := beq_iff_eq.mpr c15
       have c15b1 : (((rd_T50 t501 0).f2).toList != ([104] : List UInt8)) = false := bne_eq_false_iff_eq.mpr c15
       clear c15
       by_cases c16 : ((t501.length : Int) = 1)
       ·
        rw [if_pos c16] at H
        have c16b0 : ((t501.length : Int) == 1) = true := beq_iff_eq.mpr c16
        have c16b1 : ((t501.length : Int) != 1) = false := bne_eq_false_iff_eq.mpr c16
        clear c16
        simp only [Option.some.injEq, Prod.mk.injEq] at H
        obtain ⟨rfl, rfl, rfl, rfl⟩ := H
        obtain ⟨Ao17, co17, eo17⟩ := Kd.R_slice HO_6.out
        subst eo17
        have p506 : 0 ≤ (0 : Int) := (by omega)
        have q506 : 0 < (t501.length : Int) := of_decide_eq_true (by first | (with_reducible assumption) | assumption)
        obtain ⟨ad506, e506, hx506_0, hx506_1, hx506_2⟩ := at_T50 (Kd.R_reads' HO_6.out).2.2 0 p506 q506
        cases e506
        have qi506 : (0 < t501.length) = True := eq_true (by omega)
        (try rw [show ((0 : Int)).toNat = 0 from rfl] at hx506_0)
        (try rw [show 0 * 3 = 0 from rfl] at hx506_0)
        (try rw [Addr.add_zero'] at hx506_0)
        (try rw [show ((0 : Int)).toNat = 0 from rfl] at hx506_1)
        (try rw [show 0 * 3 = 0 from rfl] at hx506_1)
        (try rw [Addr.add_zero'] at hx506_1)
        (try rw [show ((0 : Int)).toNat = 0 from rfl] at hx506_2)
        (try rw [show 0 * 3 = 0 from rfl] at hx506_2)
        (try rw [Addr.add_zero'] at hx506_2)
        replace p506 := eq_true p506
        replace q506 := eq_true q506
        go_wp2
        repeat (go_quiet (fail); try go_wp2)
        refine bodyPost_ret (results_list (rs := [.tmp 2, .tmp 3, .tmp 4, .tmp 5]) rfl (by simp) (.tmp (.tmp (.tmp (.tmp .nil))))) rfl ?_
        exact ⟨by first | rfl | (simp [errW_none, errW_some] <;> rfl) | (simp [*, errW_none, errW_some] <;> rfl) | exact ret_ie _ | (simp [*, errW_none, errW_some, bne]; done), by repeat (first | (with_reducible first | exact HB.out | apply below_alloc | apply pw_below_drewN | apply below_drew1) | exact HB.out)⟩
       ·
        rw [if_neg c16] at H
        have c16b0 : ((t501.length : Int) == 1) = false := beq_eq_false_iff_ne.mpr c16
        have c16b1 : ((t501.length : Int) != 1) = true := bne_iff_ne.mpr c16
        simp only [Option.some.injEq, Prod.mk.injEq] at H
        obtain ⟨rfl, rfl, rfl, rfl⟩ := H
        obtain ⟨Ao18, co18, eo18⟩ := Kd.R_slice HO_6.out
        subst eo18
        have p506 : 0 ≤ (0 : Int) := (by omega)
        have q506 : 0 < (t501.length : Int) := of_decide_eq_true (by first | (with_reducible assumption) | assumption)
        obtain ⟨ad506, e506, hx506_0, hx506_1, hx506_2⟩ := at_T50 (Kd.R_reads' HO_6.out).2.2 0 p506 q506
        cases e506
        have qi506 : (0 < t501.length) = True := eq_true (by omega)
        (try rw [show ((0 : Int)).toNat = 0 from rfl] at hx506_0)
        (try rw [show 0 * 3 = 0 from rfl] at hx506_0)
        (try rw [Addr.add_zero'] at hx506_0)
        (try rw [show ((0 : Int)).toNat = 0 from rfl] at hx506_1)
        (try rw [show 0 * 3 = 0 from rfl] at hx506_1)
        (try rw [Addr.add_zero'] at hx506_1)
        (try rw [show ((0 : Int)).toNat = 0 from rfl] at hx506_2)
        (try rw [show 0 * 3 = 0 from rfl] at hx506_2)
        (try rw [Addr.add_zero'] at hx506_2)
        replace p506 := eq_true p506
        replace q506 := eq_true q506
        go_wp2
        repeat (go_quiet (fail); try go_wp2)
        refine bodyPost_ret (results_list (rs := [.tmp 2, .tmp 3, .tmp 4, .tmp 5]) rfl (by simp) (.tmp (.tmp (.tmp (.tmp .nil))))) rfl ?_
        exact ⟨by first | rfl | (simp [errW_none, errW_some] <;> rfl) | (simp [*, errW_none, errW_some] <;> rfl) | exact ret_ie _ | (simp [*, errW_none, errW_some, bne]; done), by repeat (first | (with_reducible first | exact HB.out | apply below_alloc | apply pw_below_drewN | apply below_drew1) | exact HB.out)⟩
      ·
       rw [if_neg c15] at H
       have c15b0 : (((rd_T50 t501 0).f2).toList == ([104] : List UInt8)) = false := beq_eq_false_iff_ne.mpr c15
       have c15b1 : (((rd_T50 t501 0).f2).toList != ([104] : List UInt8)) = true := bne_iff_ne.mpr c15
       by_cases c19 : ((rd_T50 t501 0).f2).toList = ([107] : List UInt8)
       ·
        rw [if_pos c19] at H
        have c19b0 : (((rd_T50 t501 0).f2).toList == ([107] : List UInt8)) = true := beq_iff_eq.mpr c19
        have c19b1 : (((rd_T50 t501 0).f2).toList != ([107] : List UInt8)) = false := bne_eq_false_iff_eq.mpr c19
        clear c19
        have HC20 := Aside0.mk H
        clear H
        obtain ⟨Ao21, co21, eo21⟩ := Kd.R_slice HO_6.out
        subst eo21
        have p506 : 0 ≤ (0 : Int) := (by omega)
        have q506 : 0 < (t501.length : Int) := of_decide_eq_true (by first | (with_reducible assumption) | assumption)
        obtain ⟨ad506, e506, hx506_0, hx506_1, hx506_2⟩ := at_T50 (Kd.R_reads' HO_6.out).2.2 0 p506 q506
        cases e506
        have qi506 : (0 < t501.length) = True := eq_true (by omega)
        (try rw [show ((0 : Int)).toNat = 0 from rfl] at hx506_0)
        (try rw [show 0 * 3 = 0 from rfl] at hx506_0)
        (try rw [Addr.add_zero'] at hx506_0)
        (try rw [show ((0 : Int)).toNat = 0 from rfl] at hx506_1)
        (try rw [show 0 * 3 = 0 from rfl] at hx506_1)
        (try rw [Addr.add_zero'] at hx506_1)
        (try rw [show ((0 : Int)).toNat = 0 from rfl] at hx506_2)
        (try rw [show 0 * 3 = 0 from rfl] at hx506_2)
        (try rw [Addr.add_zero'] at hx506_2)
        replace p506 := eq_true p506
        replace q506 := eq_true q506
        go_upto_region 12 with (fail)
        repeat (go_quiet (fail); go_upto_region 12 with (fail))
        go_cut [2, 8] (fun v2 v8 wc => ∃ (kq : Nat) (x2_19 : Int) (x8_19 : Bool), v2 = .int .u8 x2_19 ∧ v8 = .bool x8_19 ∧ Aside0 (keys_Of.j1 kq x2_19 0 t501 x8_19 = some (r1, r2, r3, r4)) ∧ Aside0 (kq ≤ kj2) ∧ Aside0 (Kd.R k50 50 wc w.heap.size (fun _ => True) (.slice (some ad506) t501.length co21) t501) ∧ Aside0 (Below w.heap.size w wc))
        case first =>
         have H := HC20.out
         clear HC20
         by_cases c22 : (t501.length : Int) = 2
         ·
          rw [if_pos c22] at H
          have c22b0 : ((t501.length : Int) == 2) = true := beq_iff_eq.mpr c22
          have c22b1 : ((t501.length : Int) != 2) = false := bne_eq_false_iff_eq.mpr c22
          clear c22
          (first | rw [c22b0] | (simp only [i64_w, i32_w]; rw [c22b0]) | skip)
          by_cases c23 : 1 < (t501.length : Int)
          ·
           rw [if_pos c23] at H
           have c23b0 : decide (1 < (t501.length : Int)) = true := decide_eq_true c23
           have c23b1 : decide (1 < t501.length) = true := decide_eq_true (by omega)
           clear c23
           obtain ⟨bq24, hbq24⟩ : ∃ b_ : Bool, b_ = ((rd_T50 t501 1).f0) := ⟨_, rfl⟩
           replace H : (if bq24 = true then (if (((rd_T50 t501 1).f2).size : Int) ≥ 1 then (keys_Of.j1 kj2 3 0 t501 (decide ((((rd_T50 t501 1).f2).size : Int) ≤ 24))) else (keys_Of.j1 kj2 3 0 t501 false)) else (keys_Of.j1 kj2 3 0 t501 false)) = some (r1, r2, r3, r4) := by rw [← hbq24] at H; exact H
           have Nbq24 := Aside0.mk hbq24
           clear hbq24
           by_cases c25 : bq24 = true
           ·
            subst c25
            have H1 : (if (((rd_T50 t501 1).f2).size : Int) ≥ 1 then (keys_Of.j1 kj2 3 0 t501 (decide ((((rd_T50 t501 1).f2).size : Int) ≤ 24))) else (keys_Of.j1 kj2 3 0 t501 false)) = some (r1, r2, r3, r4) := by rw [if_pos rfl] at H; exact H
            clear H
            have H := H1
            clear H1
            by_cases c26 : (((rd_T50 t501 1).f2).size : Int) ≥ 1
            ·
             rw [if_pos c26] at H
             have c26b0 : decide (1 ≤ (((rd_T50 t501 1).f2).size : Int)) = true := decide_eq_true c26
             have c26b1 : decide (1 ≤ ((rd_T50 t501 1).f2).size) = true := decide_eq_true (by omega)
             clear c26
             have H' := Aside0.mk H
             clear H
             have p509 : 0 ≤ (1 : Int) := (by omega)
             have q509 : 1 < (t501.length : Int) := of_decide_eq_true (by first | (with_reducible assumption) | assumption)
             obtain ⟨ad509, e509, hx509_0, hx509_1, hx509_2⟩ := at_T50 (Kd.R_reads' HO_6.out).2.2 1 p509 q509
             (try rw [← Nbq24.out] at hx509_0)
             obtain rfl : ad506 = ad509 := (by injection e509)
             (try simp only [show (1 : Int).toNat = 1 from rfl, Nat.reduceMul, Nat.reduceEqDiff, Go.Addr.add, ↓reduceIte] at hx509_0)
             (try simp only [show (1 : Int).toNat = 1 from rfl, Nat.reduceMul, Nat.reduceEqDiff, Go.Addr.add, ↓reduceIte] at hx509_1)
             (try simp only [show (1 : Int).toNat = 1 from rfl, Nat.reduceMul, Nat.reduceEqDiff, Go.Addr.add, ↓reduceIte] at hx509_2)
             have qi509 : (1 < t501.length) = True := eq_true (by omega)
             (try rw [show ((1 : Int)).toNat = 1 from rfl] at hx509_0)
             (try rw [show 1 * 3 = 3 from rfl] at hx509_0)
             (try rw [show ((1 : Int)).toNat = 1 from rfl] at hx509_1)
             (try rw [show 1 * 3 = 3 from rfl] at hx509_1)
             (try rw [show ((1 : Int)).toNat = 1 from rfl] at hx509_2)
             (try rw [show 1 * 3 = 3 from rfl] at hx509_2)
             replace p509 := eq_true p509
             replace q509 := eq_true q509
             have p510 : 0 ≤ (1 : Int) := (by omega)
             have q510 : 1 < (t501.length : Int) := of_decide_eq_true (by first | (with_reducible assumption) | assumption)
             obtain ⟨ad510, e510, hx510_0, hx510_1, hx510_2⟩ := at_T50 (Kd.R_reads' HO_6.out).2.2 1 p510 q510
             (try rw [← Nbq24.out] at hx510_0)
             obtain rfl : ad506 = ad510 := (by injection e510)
             (try simp only [show (1 : Int).toNat = 1 from rfl, Nat.reduceMul, Nat.reduceEqDiff, Go.Addr.add, ↓reduceIte] at hx510_0)
             (try simp only [show (1 : Int).toNat = 1 from rfl, Nat.reduceMul, Nat.reduceEqDiff, Go.Addr.add, ↓reduceIte] at hx510_1)
             (try simp only [show (1 : Int).toNat = 1 from rfl, Nat.reduceMul, Nat.reduceEqDiff, Go.Addr.add, ↓reduceIte] at hx510_2)
             have qi510 : (1 < t501.length) = True := eq_true (by omega)
             (try rw [show ((1 : Int)).toNat = 1 from rfl] at hx510_0)
             (try rw [show 1 * 3 = 3 from rfl] at hx510_0)
             (try rw [show ((1 : Int)).toNat = 1 from rfl] at hx510_1)
             (try rw [show 1 * 3 = 3 from rfl] at hx510_1)
             (try rw [show ((1 : Int)).toNat = 1 from rfl] at hx510_2)
             (try rw [show 1 * 3 = 3 from rfl] at hx510_2)
             replace p510 := eq_true p510
             replace q510 := eq_true q510
             have p511 : 0 ≤ (1 : Int) := (by omega)
             have q511 : 1 < (t501.length : Int) := of_decide_eq_true (by first | (with_reducible assumption) | assumption)
             obtain ⟨ad511, e511, hx511_0, hx511_1, hx511_2⟩ := at_T50 (Kd.R_reads' HO_6.out).2.2 1 p511 q511
             (try rw [← Nbq24.out] at hx511_0)
             obtain rfl : ad506 = ad511 := (by injection e511)
             (try simp only [show (1 : Int).toNat = 1 from rfl, Nat.reduceMul, Nat.reduceEqDiff, Go.Addr.add, ↓reduceIte] at hx511_0)
             (try simp only [show (1 : Int).toNat = 1 from rfl, Nat.reduceMul, Nat.reduceEqDiff, Go.Addr.add, ↓reduceIte] at hx511_1)
             (try simp only [show (1 : Int).toNat = 1 from rfl, Nat.reduceMul, Nat.reduceEqDiff, Go.Addr.add, ↓reduceIte] at hx511_2)
             have qi511 : (1 < t501.length) = True := eq_true (by omega)
             (try rw [show ((1 : Int)).toNat = 1 from rfl] at hx511_0)
             (try rw [show 1 * 3 = 3 from rfl] at hx511_0)
             (try rw [show ((1 : Int)).toNat = 1 from rfl] at hx511_1)
             (try rw [show 1 * 3 = 3 from rfl] at hx511_1)
             (try rw [show ((1 : Int)).toNat = 1 from rfl] at hx511_2)
             (try rw [show 1 * 3 = 3 from rfl] at hx511_2)
             replace p511 := eq_true p511
             replace q511 := eq_true q511
             go_wp2
             repeat (go_quiet (fail); try go_wp2)
             go_meet
             case rel => exact ⟨_, (3), (decide ((((rd_T50 t501 1).f2).size : Int) ≤ 24)), (by first | rfl | (simp; done) | (simp [*]; done)), (by first | rfl | (simp; done) | (simp [*]; done)), H', ⟨by have := HJ2.out; first | omega | exact Nat.le_refl _⟩, ⟨by (with_reducible repeat (first | apply Kd.R_alloc | apply Kd.R_drewN | apply Kd.R_drew)); exact HO_6.out⟩, ⟨by repeat (first | (with_reducible first | exact HB.out | apply below_alloc | apply pw_below_drewN | apply below_drew1) | exact HB.out)⟩⟩
            ·
             rw [if_neg c26] at H
             have c26b0 : decide (1 ≤ (((rd_T50 t501 1).f2).size : Int)) = false := decide_eq_false c26
             have c26b1 : decide (1 ≤ ((rd_T50 t501 1).f2).size) = false := decide_eq_false (by omega)
             clear c26
             have H' := Aside0.mk H
             clear H
             have p509 : 0 ≤ (1 : Int) := (by omega)
             have q509 : 1 < (t501.length : Int) := of_decide_eq_true (by first | (with_reducible assumption) | assumption)
             obtain ⟨ad509, e509, hx509_0, hx509_1, hx509_2⟩ := at_T50 (Kd.R_reads' HO_6.out).2.2 1 p509 q509
             (try rw [← Nbq24.out] at hx509_0)
             obtain rfl : ad506 = ad509 := (by injection e509)
             (try simp only [show (1 : Int).toNat = 1 from rfl, Nat.reduceMul, Nat.reduceEqDiff, Go.Addr.add, ↓reduceIte] at hx509_0)
             (try simp only [show (1 : Int).toNat = 1 from rfl, Nat.reduceMul, Nat.reduceEqDiff, Go.Addr.add, ↓reduceIte] at hx509_1)
             (try simp only [show (1 : Int).toNat = 1 from rfl, Nat.reduceMul, Nat.reduceEqDiff, Go.Addr.add, ↓reduceIte] at hx509_2)
             have qi509 : (1 < t501.length) = True := eq_true (by omega)
             (try rw [show ((1 : Int)).toNat = 1 from rfl] at hx509_0)
             (try rw [show 1 * 3 = 3 from rfl] at hx509_0)
             (try rw [show ((1 : Int)).toNat = 1 from rfl] at hx509_1)
             (try rw [show 1 * 3 = 3 from rfl] at hx509_1)
             (try rw [show ((1 : Int)).toNat = 1 from rfl] at hx509_2)
             (try rw [show 1 * 3 = 3 from rfl] at hx509_2)
             replace p509 := eq_true p509
             replace q509 := eq_true q509
             have p510 : 0 ≤ (1 : Int) := (by omega)
             have q510 : 1 < (t501.length : Int) := of_decide_eq_true (by first | (with_reducible assumption) | assumption)
             obtain ⟨ad510, e510, hx510_0, hx510_1, hx510_2⟩ := at_T50 (Kd.R_reads' HO_6.out).2.2 1 p510 q510
             (try rw [← Nbq24.out] at hx510_0)
             obtain rfl : ad506 = ad510 := (by injection e510)
             (try simp only [show (1 : Int).toNat = 1 from rfl, Nat.reduceMul, Nat.reduceEqDiff, Go.Addr.add, ↓reduceIte] at hx510_0)
             (try simp only [show (1 : Int).toNat = 1 from rfl, Nat.reduceMul, Nat.reduceEqDiff, Go.Addr.add, ↓reduceIte] at hx510_1)
             (try simp only [show (1 : Int).toNat = 1 from rfl, Nat.reduceMul, Nat.reduceEqDiff, Go.Addr.add, ↓reduceIte] at hx510_2)
             have qi510 : (1 < t501.length) = True := eq_true (by omega)
             (try rw [show ((1 : Int)).toNat = 1 from rfl] at hx510_0)
             (try rw [show 1 * 3 = 3 from rfl] at hx510_0)
             (try rw [show ((1 : Int)).toNat = 1 from rfl] at hx510_1)
             (try rw [show 1 * 3 = 3 from rfl] at hx510_1)
             (try rw [show ((1 : Int)).toNat = 1 from rfl] at hx510_2)
             (try rw [show 1 * 3 = 3 from rfl] at hx510_2)
             replace p510 := eq_true p510
             replace q510 := eq_true q510
             go_wp2
             repeat (go_quiet (fail); try go_wp2)
             go_meet
             case rel => exact ⟨_, (3), (false), (by first | rfl | (simp; done) | (simp [*]; done)), (by first | rfl | (simp; done) | (simp [*]; done)), H', ⟨by have := HJ2.out; first | omega | exact Nat.le_refl _⟩, ⟨by (with_reducible repeat (first | apply Kd.R_alloc | apply Kd.R_drewN | apply Kd.R_drew)); exact HO_6.out⟩, ⟨by repeat (first | (with_reducible first | exact HB.out | apply below_alloc | apply pw_below_drewN | apply below_drew1) | exact HB.out)⟩⟩
           ·
            replace c25 := Bool.eq_false_iff.mpr c25
            subst c25
            have H1 : (keys_Of.j1 kj2 3 0 t501 false) = some (r1, r2, r3, r4) := by rw [if_neg (show ¬ (false = true) by decide)] at H; exact H
            clear H
            have H := H1
            clear H1
            have H' := Aside0.mk H
            clear H
            have p509 : 0 ≤ (1 : Int) := (by omega)
            have q509 : 1 < (t501.length : Int) := of_decide_eq_true (by first | (with_reducible assumption) | assumption)
            obtain ⟨ad509, e509, hx509_0, hx509_1, hx509_2⟩ := at_T50 (Kd.R_reads' HO_6.out).2.2 1 p509 q509
            (try rw [← Nbq24.out] at hx509_0)
            obtain rfl : ad506 = ad509 := (by injection e509)
            (try simp only [show (1 : Int).toNat = 1 from rfl, Nat.reduceMul, Nat.reduceEqDiff, Go.Addr.add, ↓reduceIte] at hx509_0)
            (try simp only [show (1 : Int).toNat = 1 from rfl, Nat.reduceMul, Nat.reduceEqDiff, Go.Addr.add, ↓reduceIte] at hx509_1)
            (try simp only [show (1 : Int).toNat = 1 from rfl, Nat.reduceMul, Nat.reduceEqDiff, Go.Addr.add, ↓reduceIte] at hx509_2)
            have qi509 : (1 < t501.length) = True := eq_true (by omega)
            (try rw [show ((1 : Int)).toNat = 1 from rfl] at hx509_0)
            (try rw [show 1 * 3 = 3 from rfl] at hx509_0)
            (try rw [show ((1 : Int)).toNat = 1 from rfl] at hx509_1)
            (try rw [show 1 * 3 = 3 from rfl] at hx509_1)
            (try rw [show ((1 : Int)).toNat = 1 from rfl] at hx509_2)
            (try rw [show 1 * 3 = 3 from rfl] at hx509_2)
            replace p509 := eq_true p509
            replace q509 := eq_true q509
            go_wp2
            repeat (go_quiet (fail); try go_wp2)
            go_meet
            case rel => exact ⟨_, (3), (false), (by first | rfl | (simp; done) | (simp [*]; done)), (by first | rfl | (simp; done) | (simp [*]; done)), H', ⟨by have := HJ2.out; first | omega | exact Nat.le_refl _⟩, ⟨by (with_reducible repeat (first | apply Kd.R_alloc | apply Kd.R_drewN | apply Kd.R_drew)); exact HO_6.out⟩, ⟨by repeat (first | (with_reducible first | exact HB.out | apply below_alloc | apply pw_below_drewN | apply below_drew1) | exact HB.out)⟩⟩
          ·
           rw [if_neg c23] at H
           exact absurd H (by simp)
         ·
          rw [if_neg c22] at H
          have c22b0 : ((t501.length : Int) == 2) = false := beq_eq_false_iff_ne.mpr c22
          have c22b1 : ((t501.length : Int) != 2) = true := bne_iff_ne.mpr c22
          (first | rw [c22b0] | (simp only [i64_w, i32_w]; rw [c22b0]) | skip)
          have H' := Aside0.mk H
          clear H
          go_wp2
          repeat (go_quiet (fail); try go_wp2)
          go_meet
          case rel => exact ⟨_, (3), (false), (by first | rfl | (simp; done) | (simp [*]; done)), (by first | rfl | (simp; done) | (simp [*]; done)), H', ⟨by have := HJ2.out; first | omega | exact Nat.le_refl _⟩, ⟨by (with_reducible repeat (first | apply Kd.R_alloc | apply Kd.R_drewN | apply Kd.R_drew)); exact HO_6.out⟩, ⟨by repeat (first | (with_reducible first | exact HB.out | apply below_alloc | apply pw_below_drewN | apply below_drew1) | exact HB.out)⟩⟩
        case rest =>
         clear HC20
         try clear c1
         try clear c2
         try clear p2
         try clear q2
         try clear c3
         try clear c5
         try clear c5b0
         try clear c5b1
         try clear p5
         try clear q5
         try clear hx5
         try clear qi5
         try clear c6
         try clear c6b0
         try clear c6b1
         try clear c8
         try clear c9
         try clear c9b0
         try clear c9b1
         try clear c10
         try clear c10b0
         try clear c10b1
         try clear c12
         try clear c15
         try clear c15b0
         try clear c15b1
         try clear c16
         try clear c16b0
         try clear c16b1
         try clear c19
         try clear c19b0
         try clear c19b1
         try clear c22
         try clear c22b0
         try clear c22b1
         try clear c23
         try clear c23b0
         try clear c23b1
         try clear q24
         try clear c25
         try clear c26
         try clear c26b0
         try clear c26b1
         try clear hx505_0
         try clear hx505_1
         try clear hx505_2
         try clear hx506_0
         try clear hx506_1
         try clear hx506_2
         try clear hx509_0
         try clear hx509_1
         try clear hx509_2
         try clear hx510_0
         try clear hx510_1
         try clear hx510_2
         try clear hx511_0
         try clear hx511_1
         try clear hx511_2
         try clear p2
         try clear p5
         try clear p505
         try clear p506
         try clear p509
         try clear p510
         try clear p511
         try clear q5
         try clear q505
         try clear q506
         try clear q509
         try clear q510
         try clear q511
         obtain ⟨kq, x2_19, x8_19, rfl, rfl, HA, HJ19, HO_6, HB⟩ := hcut
         cases kq with
         | zero => exact absurd HA.out (by simp [keys_Of.j1])
         | succ kj19 =>
          have H := HA.out
          clear HA
          simp only [keys_Of.j1] at H
          by_cases c27 : x8_19 = true
          ·
           subst c27
           have H1 : (if 1 < (t501.length : Int) then (some (x2_19, 0, (rd_T50 t501 1).f2, 0)) else (none)) = some (r1, r2, r3, r4) := by rw [if_pos rfl] at H; exact H
           clear H
           have H := H1
           clear H1
           by_cases c28 : 1 < (t501.length : Int)
           ·
            rw [if_pos c28] at H
            have c28b0 : decide (1 < (t501.length : Int)) = true := decide_eq_true c28
            have c28b1 : decide (1 < t501.length) = true := decide_eq_true (by omega)
            clear c28
            simp only [Option.some.injEq, Prod.mk.injEq] at H
            obtain ⟨rfl, rfl, rfl, rfl⟩ := H
            have p512 : 0 ≤ (1 : Int) := (by omega)
            have q512 : 1 < (t501.length : Int) := of_decide_eq_true (by first | (with_reducible assumption) | assumption)
            obtain ⟨ad512, e512, hx512_0, hx512_1, hx512_2⟩ := at_T50 (Kd.R_reads' HO_6.out).2.2 1 p512 q512
            obtain rfl : ad506 = ad512 := (by injection e512)
            (try simp only [show (1 : Int).toNat = 1 from rfl, Nat.reduceMul, Nat.reduceEqDiff, Go.Addr.add, ↓reduceIte] at hx512_0)
            (try simp only [show (1 : Int).toNat = 1 from rfl, Nat.reduceMul, Nat.reduceEqDiff, Go.Addr.add, ↓reduceIte] at hx512_1)
            (try simp only [show (1 : Int).toNat = 1 from rfl, Nat.reduceMul, Nat.reduceEqDiff, Go.Addr.add, ↓reduceIte] at hx512_2)
            have qi512 : (1 < t501.length) = True := eq_true (by omega)
            (try rw [show ((1 : Int)).toNat = 1 from rfl] at hx512_0)
            (try rw [show 1 * 3 = 3 from rfl] at hx512_0)
            (try rw [show ((1 : Int)).toNat = 1 from rfl] at hx512_1)
            (try rw [show 1 * 3 = 3 from rfl] at hx512_1)
            (try rw [show ((1 : Int)).toNat = 1 from rfl] at hx512_2)
            (try rw [show 1 * 3 = 3 from rfl] at hx512_2)
            replace p512 := eq_true p512
            replace q512 := eq_true q512
            go_wp2
            repeat (go_quiet (fail); try go_wp2)
            refine bodyPost_ret (results_list (rs := [.tmp 2, .tmp 3, .tmp 4, .tmp 5]) rfl (by simp) (.tmp (.tmp (.tmp (.tmp .nil))))) rfl ?_
            exact ⟨by first | rfl | (simp [errW_none, errW_some] <;> rfl) | (simp [*, errW_none, errW_some] <;> rfl) | exact ret_ie _ | (simp [*, errW_none, errW_some, bne]; done), by repeat (first | (with_reducible first | exact HB.out | apply below_alloc | apply pw_below_drewN | apply below_drew1) | exact HB.out)⟩
           ·
            rw [if_neg c28] at H
            exact absurd H (by simp)
          ·
           replace c27 := Bool.eq_false_iff.mpr c27
           subst c27
           have H1 : (some (0, 0, (⟨#[]⟩ : ByteArray), 8)) = some (r1, r2, r3, r4) := by rw [if_neg (show ¬ (false = true) by decide)] at H; exact H
           clear H
           have H := H1
           clear H1
           simp only [Option.some.injEq, Prod.mk.injEq] at H
           obtain ⟨rfl, rfl, rfl, rfl⟩ := H
           go_wp2
           repeat (go_quiet (fail); try go_wp2)
           refine bodyPost_ret (results_list (rs := [.tmp 2, .tmp 3, .tmp 4, .tmp 5]) rfl (by simp) (.tmp (.tmp (.tmp (.tmp .nil))))) rfl ?_
           exact ⟨by first | rfl | (simp [errW_none, errW_some] <;> rfl) | (simp [*, errW_none, errW_some] <;> rfl) | exact ret_ie _ | (simp [*, errW_none, errW_some, bne]; done), by repeat (first | (with_reducible first | exact HB.out | apply below_alloc | apply pw_below_drewN | apply below_drew1) | exact HB.out)⟩
       ·
        rw [if_neg c19] at H
        have c19b0 : (((rd_T50 t501 0).f2).toList == ([107] : List UInt8)) = false := beq_eq_false_iff_ne.mpr c19
        have c19b1 : (((rd_T50 t501 0).f2).toList != ([107] : List UInt8)) = true := bne_iff_ne.mpr c19
        by_cases c29 : ((rd_T50 t501 0).f2).toList = ([114] : List UInt8)
        ·
         rw [if_pos c29] at H
         have c29b0 : (((rd_T50 t501 0).f2).toList == ([114] : List UInt8)) = true := beq_iff_eq.mpr c29
         have c29b1 : (((rd_T50 t501 0).f2).toList != ([114] : List UInt8)) = false := bne_eq_false_iff_eq.mpr c29
         clear c29
         replace H := Option.bind_eq_some_iff.mp H
         obtain ⟨⟨t513, t514⟩, A300, H⟩ := H
         replace H : (if t514 = true then (some (4, t513, (⟨#[]⟩ : ByteArray), 0)) else (some (0, 0, (⟨#[]⟩ : ByteArray), 8))) = some (r1, r2, r3, r4) := H
         have A30 := Aside0.mk A300
         clear A300
         by_cases c31 : t514 = true
         ·
          subst c31
          have H1 : (some (4, t513, (⟨#[]⟩ : ByteArray), 0)) = some (r1, r2, r3, r4) := by rw [if_pos rfl] at H; exact H
          clear H
          have H := H1
          clear H1
          simp only [Option.some.injEq, Prod.mk.injEq] at H
          obtain ⟨rfl, rfl, rfl, rfl⟩ := H
          obtain ⟨Ao32, co32, eo32⟩ := Kd.R_slice HO_6.out
          subst eo32
          have p506 : 0 ≤ (0 : Int) := (by omega)
          have q506 : 0 < (t501.length : Int) := of_decide_eq_true (by first | (with_reducible assumption) | assumption)
          obtain ⟨ad506, e506, hx506_0, hx506_1, hx506_2⟩ := at_T50 (Kd.R_reads' HO_6.out).2.2 0 p506 q506
          cases e506
          have qi506 : (0 < t501.length) = True := eq_true (by omega)
          (try rw [show ((0 : Int)).toNat = 0 from rfl] at hx506_0)
          (try rw [show 0 * 3 = 0 from rfl] at hx506_0)
          (try rw [Addr.add_zero'] at hx506_0)
          (try rw [show ((0 : Int)).toNat = 0 from rfl] at hx506_1)
          (try rw [show 0 * 3 = 0 from rfl] at hx506_1)
          (try rw [Addr.add_zero'] at hx506_1)
          (try rw [show ((0 : Int)).toNat = 0 from rfl] at hx506_2)
          (try rw [show 0 * 3 = 0 from rfl] at hx506_2)
          (try rw [Addr.add_zero'] at hx506_2)
          replace p506 := eq_true p506
          replace q506 := eq_true q506
          go_wp2_with (first | (go_at_call 51; (with_reducible refine (keys_number.calls _ _ t501 0 t513 true _ ?side1 ?side2 A30.out).mono ?_); (case side1 => repeat (first | exact (Kd.R_reads' HO_6.out).2.2 | (with_reducible refine Kd.C_alloc ?_ _) | (with_reducible refine Kd.C_drewN ?_ _) | (with_reducible refine Kd.C_drew ?_))); (case side2 => exact (Kd.R_reads' HO_6.out).2.1); rintro e w' ⟨rfl, ⟨nd, rfl⟩⟩; (try first | exact ⟨rfl, _, World.drewN_drewN _ _ _⟩ | exact ⟨rfl, _, Eq.trans (World.drewN_drewN _ _ _) (congrArg (World.drewN _) (Nat.add_assoc _ _ _))⟩)))
          repeat (go_quiet (first | (go_at_call 51; (with_reducible refine (keys_number.calls _ _ t501 0 t513 true _ ?side1 ?side2 A30.out).mono ?_); (case side1 => repeat (first | exact (Kd.R_reads' HO_6.out).2.2 | (with_reducible refine Kd.C_alloc ?_ _) | (with_reducible refine Kd.C_drewN ?_ _) | (with_reducible refine Kd.C_drew ?_))); (case side2 => exact (Kd.R_reads' HO_6.out).2.1); rintro e w' ⟨rfl, ⟨nd, rfl⟩⟩; (try first | exact ⟨rfl, _, World.drewN_drewN _ _ _⟩ | exact ⟨rfl, _, Eq.trans (World.drewN_drewN _ _ _) (congrArg (World.drewN _) (Nat.add_assoc _ _ _))⟩))); try go_wp2_with (first | (go_at_call 51; (with_reducible refine (keys_number.calls _ _ t501 0 t513 true _ ?side1 ?side2 A30.out).mono ?_); (case side1 => repeat (first | exact (Kd.R_reads' HO_6.out).2.2 | (with_reducible refine Kd.C_alloc ?_ _) | (with_reducible refine Kd.C_drewN ?_ _) | (with_reducible refine Kd.C_drew ?_))); (case side2 => exact (Kd.R_reads' HO_6.out).2.1); rintro e w' ⟨rfl, ⟨nd, rfl⟩⟩; (try first | exact ⟨rfl, _, World.drewN_drewN _ _ _⟩ | exact ⟨rfl, _, Eq.trans (World.drewN_drewN _ _ _) (congrArg (World.drewN _) (Nat.add_assoc _ _ _))⟩))))
          refine bodyPost_ret (results_list (rs := [.tmp 2, .tmp 3, .tmp 4, .tmp 5]) rfl (by simp) (.tmp (.tmp (.tmp (.tmp .nil))))) rfl ?_
          exact ⟨by first | rfl | (simp [errW_none, errW_some] <;> rfl) | (simp [*, errW_none, errW_some] <;> rfl) | exact ret_ie _ | (simp [*, errW_none, errW_some, bne]; done), by repeat (first | (with_reducible first | exact HB.out | apply below_alloc | apply pw_below_drewN | apply below_drew1) | exact HB.out)⟩
         ·
          replace c31 := Bool.eq_false_iff.mpr c31
          subst c31
          have H1 : (some (0, 0, (⟨#[]⟩ : ByteArray), 8)) = some (r1, r2, r3, r4) := by rw [if_neg (show ¬ (false = true) by decide)] at H; exact H
          clear H
          have H := H1
          clear H1
          simp only [Option.some.injEq, Prod.mk.injEq] at H
          obtain ⟨rfl, rfl, rfl, rfl⟩ := H
          obtain ⟨Ao33, co33, eo33⟩ := Kd.R_slice HO_6.out
          subst eo33
          have p506 : 0 ≤ (0 : Int) := (by omega)
          have q506 : 0 < (t501.length : Int) := of_decide_eq_true (by first | (with_reducible assumption) | assumption)
          obtain ⟨ad506, e506, hx506_0, hx506_1, hx506_2⟩ := at_T50 (Kd.R_reads' HO_6.out).2.2 0 p506 q506
          cases e506
          have qi506 : (0 < t501.length) = True := eq_true (by omega)
          (try rw [show ((0 : Int)).toNat = 0 from rfl] at hx506_0)
          (try rw [show 0 * 3 = 0 from rfl] at hx506_0)
          (try rw [Addr.add_zero'] at hx506_0)
          (try rw [show ((0 : Int)).toNat = 0 from rfl] at hx506_1)
          (try rw [show 0 * 3 = 0 from rfl] at hx506_1)
          (try rw [Addr.add_zero'] at hx506_1)
          (try rw [show ((0 : Int)).toNat = 0 from rfl] at hx506_2)
          (try rw [show 0 * 3 = 0 from rfl] at hx506_2)
          (try rw [Addr.add_zero'] at hx506_2)
          replace p506 := eq_true p506
          replace q506 := eq_true q506
          go_wp2_with (first | (go_at_call 51; (with_reducible refine (keys_number.calls _ _ t501 0 t513 false _ ?side1 ?side2 A30.out).mono ?_); (case side1 => repeat (first | exact (Kd.R_reads' HO_6.out).2.2 | (with_reducible refine Kd.C_alloc ?_ _) | (with_reducible refine Kd.C_drewN ?_ _) | (with_reducible refine Kd.C_drew ?_))); (case side2 => exact (Kd.R_reads' HO_6.out).2.1); rintro e w' ⟨rfl, ⟨nd, rfl⟩⟩; (try first | exact ⟨rfl, _, World.drewN_drewN _ _ _⟩ | exact ⟨rfl, _, Eq.trans (World.drewN_drewN _ _ _) (congrArg (World.drewN _) (Nat.add_assoc _ _ _))⟩)))
          repeat (go_quiet (first | (go_at_call 51; (with_reducible refine (keys_number.calls _ _ t501 0 t513 false _ ?side1 ?side2 A30.out).mono ?_); (case side1 => repeat (first | exact (Kd.R_reads' HO_6.out).2.2 | (with_reducible refine Kd.C_alloc ?_ _) | (with_reducible refine Kd.C_drewN ?_ _) | (with_reducible refine Kd.C_drew ?_))); (case side2 => exact (Kd.R_reads' HO_6.out).2.1); rintro e w' ⟨rfl, ⟨nd, rfl⟩⟩; (try first | exact ⟨rfl, _, World.drewN_drewN _ _ _⟩ | exact ⟨rfl, _, Eq.trans (World.drewN_drewN _ _ _) (congrArg (World.drewN _) (Nat.add_assoc _ _ _))⟩))); try go_wp2_with (first | (go_at_call 51; (with_reducible refine (keys_number.calls _ _ t501 0 t513 false _ ?side1 ?side2 A30.out).mono ?_); (case side1 => repeat (first | exact (Kd.R_reads' HO_6.out).2.2 | (with_reducible refine Kd.C_alloc ?_ _) | (with_reducible refine Kd.C_drewN ?_ _) | (with_reducible refine Kd.C_drew ?_))); (case side2 => exact (Kd.R_reads' HO_6.out).2.1); rintro e w' ⟨rfl, ⟨nd, rfl⟩⟩; (try first | exact ⟨rfl, _, World.drewN_drewN _ _ _⟩ | exact ⟨rfl, _, Eq.trans (World.drewN_drewN _ _ _) (congrArg (World.drewN _) (Nat.add_assoc _ _ _))⟩))))
          refine bodyPost_ret (results_list (rs := [.tmp 2, .tmp 3, .tmp 4, .tmp 5]) rfl (by simp) (.tmp (.tmp (.tmp (.tmp .nil))))) rfl ?_
          exact ⟨by first | rfl | (simp [errW_none, errW_some] <;> rfl) | (simp [*, errW_none, errW_some] <;> rfl) | exact ret_ie _ | (simp [*, errW_none, errW_some, bne]; done), by repeat (first | (with_reducible first | exact HB.out | apply below_alloc | apply pw_below_drewN | apply below_drew1) | exact HB.out)⟩
        ·
         rw [if_neg c29] at H
         have c29b0 : (((rd_T50 t501 0).f2).toList == ([114] : List UInt8)) = false := beq_eq_false_iff_ne.mpr c29
         have c29b1 : (((rd_T50 t501 0).f2).toList != ([114] : List UInt8)) = true := bne_iff_ne.mpr c29
         simp only [Option.some.injEq, Prod.mk.injEq] at H
         obtain ⟨rfl, rfl, rfl, rfl⟩ := H
         obtain ⟨Ao34, co34, eo34⟩ := Kd.R_slice HO_6.out
         subst eo34
         have p506 : 0 ≤ (0 : Int) := (by omega)
         have q506 : 0 < (t501.length : Int) := of_decide_eq_true (by first | (with_reducible assumption) | assumption)
         obtain ⟨ad506, e506, hx506_0, hx506_1, hx506_2⟩ := at_T50 (Kd.R_reads' HO_6.out).2.2 0 p506 q506
         cases e506
         have qi506 : (0 < t501.length) = True := eq_true (by omega)
         (try rw [show ((0 : Int)).toNat = 0 from rfl] at hx506_0)
         (try rw [show 0 * 3 = 0 from rfl] at hx506_0)
         (try rw [Addr.add_zero'] at hx506_0)
         (try rw [show ((0 : Int)).toNat = 0 from rfl] at hx506_1)
         (try rw [show 0 * 3 = 0 from rfl] at hx506_1)
         (try rw [Addr.add_zero'] at hx506_1)
         (try rw [show ((0 : Int)).toNat = 0 from rfl] at hx506_2)
         (try rw [show 0 * 3 = 0 from rfl] at hx506_2)
         (try rw [Addr.add_zero'] at hx506_2)
         replace p506 := eq_true p506
         replace q506 := eq_true q506
         go_wp2
         repeat (go_quiet (fail); try go_wp2)
         refine bodyPost_ret (results_list (rs := [.tmp 2, .tmp 3, .tmp 4, .tmp 5]) rfl (by simp) (.tmp (.tmp (.tmp (.tmp .nil))))) rfl ?_
         exact ⟨by first | rfl | (simp [errW_none, errW_some] <;> rfl) | (simp [*, errW_none, errW_some] <;> rfl) | exact ret_ie _ | (simp [*, errW_none, errW_some, bne]; done), by repeat (first | (with_reducible first | exact HB.out | apply below_alloc | apply pw_below_drewN | apply below_drew1) | exact HB.out)⟩
    ·
     rw [if_neg c9] at H
     exact absurd H (by simp)

end Go.Proofs.YtagdmgjdhbmaiaaDoor.R

/- Contracts of Go functions and what they come to, over the translation of this seat: made by a program of this session (print2.py). -/
import Derived.Test.YtbiphljdommacaaS3
import Derived.Test.YtbiphljdommacaaSh
import Derived.Test.YtbiphljdommacaaRx6
import Derived.Test.YtbiphljdommacaaRx22
namespace Go.Proofs.Ytbiphljdommacaa.R
open Go.RowKit Go.Proofs.Ytbiphljdommacaa.S3 Go.Proofs.Ytbiphljdommacaa.Sh Go.Proofs.Ytbiphljdommacaa.Co Go.Proofs.Ytbiphljdommacaa.Ret Go.Proofs.Ytbiphljdommacaa.Plain Go.Proofs.YtbiphljdommacaaW.PrintWords Go.Proofs.YtbiphljdommacaaW.PrintLast Go.Proofs.YtbiphljdommacaaW.PrintMore Go.Proofs.Ytbiphljdommacaa.Ti
attribute [local go_sem] max2_int min2_int max_two min_two max_three min_three max_four min_four   -- for this text's walks alone
set_option linter.unusedVariables false
set_option linter.unusedSimpArgs false

/-! ### millhandlaw25_open: function 22 -/
def millhandlaw25_open.l0 : Nat → Int → Int → ByteArray → List (S60) → Int → List (S35) → Option (Bool)
 | 0, _, _, _, _, _, _ => none
 | k + 1, x3, x823000, x823001, x823002, x823003, x823004 => if x3 < (x823004.length : Int) then (if 0 ≤ x3 then (if ((rd_T35 x823004 x3).f0) = 1 then (some true) else (if ((rd_T35 x823004 x3).f0) = 2 then (some true) else (if ((rd_T35 x823004 x3).f0) = 3 then (some true) else (millhandlaw25_open.l0 k (wrap64 (x3 + 1)) x823000 x823001 x823002 x823003 x823004)))) else (none)) else (some false)
def millhandlaw25_open.f (k : Nat) (a0_0 : Int) (a0_1 : ByteArray) (l0_2 : List (S60)) (a0_3 : Int) (l0_4 : List (S35)) : Option (Bool) := millhandlaw25_open.l0 k 0 a0_0 a0_1 l0_2 a0_3 l0_4
set_option maxHeartbeats 8000000 in
set_option maxRecDepth 100000 in
theorem millhandlaw25_open.calls (k : Nat) (a0_0 : Int) (a0_1 : ByteArray) (A0_2 : Option Addr) (c0_2 : Nat) (l0_2 : List (S60)) (a0_3 : Int) (A0_4 : Option Addr) (c0_4 : Nat) (l0_4 : List (S35)) (r : Bool) (w : World) (hr0_2 : Kd.C k60 w A0_2 l0_2.length l0_2) (hc0_2 : l0_2.length ≤ c0_2) (hr0_4 : Kd.C k35 w A0_4 l0_4.length l0_4) (hc0_4 : l0_4.length ≤ c0_4) (h : millhandlaw25_open.f k a0_0 a0_1 l0_2 a0_3 l0_4 = some r) :
  Calls Try.prog 22 #[.agg #[.int .i64 a0_0, .string a0_1, .slice A0_2 l0_2.length c0_2, .int .u8 a0_3, .slice A0_4 l0_4.length c0_4]] w fun e w' => e = .returned (.bool r) ∧ Below w.heap.size w w' := by
 have hu29 := Try.underlying29; have HR0_2 := A_ hr0_2; have HC0_2 := A_ hc0_2; clear hr0_2 hc0_2; have HR0_4 := A_ hr0_4; have HC0_4 := A_ hc0_4; clear hr0_4 hc0_4; have HB := A_ (Below.refl w.heap.size w); have H : (millhandlaw25_open.l0 k 0 a0_0 a0_1 l0_2 a0_3 l0_4) = some r := h; clear h; have H' := Aside0.mk H; clear H
 go_enter Try.func22, Try.ntmps22
 go_wp2_with (first | ((with_reducible refine gd_ 1 rfl ?_); refine by0_ 1 #[.int .i64 a0_0, .string a0_1, .slice A0_2 l0_2.length c0_2, .int .u8 a0_3, .slice A0_4 l0_4.length c0_4] 29 ?_; clear HB; intro gb822 w2 BK822 GE822 HB; have GW822 := GE822))
 go_loopg [3] k (fun kq v3 w' => ∃ (x3_1 : Int), v3 = .int .i64 x3_1 ∧ Aside0 (millhandlaw25_open.l0 kq x3_1 a0_0 a0_1 l0_2 a0_3 l0_4 = some r) ∧ Aside0 (kq ≤ k) ∧ Aside0 (w'.heap[gb822]? = some (.cells #[.int .i64 a0_0, .string a0_1, (.slice A0_2 l0_2.length c0_2), .int .u8 a0_3, (.slice A0_4 l0_4.length c0_4)] 29 (0, 0))) ∧ Aside0 (Below w.heap.size w w'))
 case atStart => exact ⟨(0), rl_, H', ⟨Nat.le_refl _⟩, ⟨bY_ BK822⟩, ⟨hb_⟩⟩
 case round =>
  clear H'; skip; obtain ⟨x3_1, rfl, HA, HK1, BK822, HB⟩ := hrel
  cases gk with
  | zero => exact absurd HA.out (by simp [millhandlaw25_open.l0])
  | succ k1 =>
   have H := HA.out; clear HA; simp only [millhandlaw25_open.l0] at H
   by_cases c3 : x3_1 < (l0_4.length : Int)
   ·
    rw [if_pos c3] at H; have c3b0 : decide (x3_1 < (l0_4.length : Int)) = true := decide_eq_true c3; clear c3
    by_cases c4 : 0 ≤ x3_1
    ·
     rw [if_pos c4] at H; have c4b0 : decide (0 ≤ x3_1) = true := decide_eq_true c4; clear c4
     by_cases c5 : ((rd_T35 l0_4 x3_1).f0) = 1
     ·
      rw [if_pos c5] at H; have c5b0 : (((rd_T35 l0_4 x3_1).f0) == 1) = true := beq_iff_eq.mpr c5; have c5b1 : (((rd_T35 l0_4 x3_1).f0) != 1) = false := bne_eq_false_iff_eq.mpr c5; clear c5; obtain rfl := Option.some.inj H; have hz6 := cz5_ BK822; have p823 : 0 ≤ (x3_1 : Int) := od_; have q823 : x3_1 < (l0_4.length : Int) := od_; obtain ⟨ad823, e823, hx823_0, hx823_1, hx823_2, hx823_3, hx823_4⟩ := at_T35 HR0_4.out x3_1 p823 q823
      cases e823
      replace hx823_0 := cl_ HB.out hx823_0; replace hx823_1 := cl_ HB.out hx823_1; replace hx823_2 := cl_ HB.out hx823_2; replace hx823_3 := cl_ HB.out hx823_3; replace hx823_4 := cl_ HB.out hx823_4; replace p823 := eq_true p823; replace q823 := eq_true q823
      go_wp2
      go_ret
      exact ⟨re_, hb_⟩
     ·
      rw [if_neg c5] at H; have c5b0 : (((rd_T35 l0_4 x3_1).f0) == 1) = false := beq_eq_false_iff_ne.mpr c5; have c5b1 : (((rd_T35 l0_4 x3_1).f0) != 1) = true := bne_iff_ne.mpr c5
      by_cases c7 : ((rd_T35 l0_4 x3_1).f0) = 2
      ·
       rw [if_pos c7] at H; have c7b0 : (((rd_T35 l0_4 x3_1).f0) == 2) = true := beq_iff_eq.mpr c7; have c7b1 : (((rd_T35 l0_4 x3_1).f0) != 2) = false := bne_eq_false_iff_eq.mpr c7; clear c7; obtain rfl := Option.some.inj H; have hz8 := cz5_ BK822; have p823 : 0 ≤ (x3_1 : Int) := od_; have q823 : x3_1 < (l0_4.length : Int) := od_; obtain ⟨ad823, e823, hx823_0, hx823_1, hx823_2, hx823_3, hx823_4⟩ := at_T35 HR0_4.out x3_1 p823 q823
       cases e823
       replace hx823_0 := cl_ HB.out hx823_0; replace hx823_1 := cl_ HB.out hx823_1; replace hx823_2 := cl_ HB.out hx823_2; replace hx823_3 := cl_ HB.out hx823_3; replace hx823_4 := cl_ HB.out hx823_4; replace p823 := eq_true p823; replace q823 := eq_true q823
       go_wp2
       go_ret
       exact ⟨re_, hb_⟩
      ·
       rw [if_neg c7] at H; have c7b0 : (((rd_T35 l0_4 x3_1).f0) == 2) = false := beq_eq_false_iff_ne.mpr c7; have c7b1 : (((rd_T35 l0_4 x3_1).f0) != 2) = true := bne_iff_ne.mpr c7
       by_cases c9 : ((rd_T35 l0_4 x3_1).f0) = 3
       ·
        rw [if_pos c9] at H; have c9b0 : (((rd_T35 l0_4 x3_1).f0) == 3) = true := beq_iff_eq.mpr c9; have c9b1 : (((rd_T35 l0_4 x3_1).f0) != 3) = false := bne_eq_false_iff_eq.mpr c9; clear c9; obtain rfl := Option.some.inj H; have hz10 := cz5_ BK822; have p823 : 0 ≤ (x3_1 : Int) := od_; have q823 : x3_1 < (l0_4.length : Int) := od_; obtain ⟨ad823, e823, hx823_0, hx823_1, hx823_2, hx823_3, hx823_4⟩ := at_T35 HR0_4.out x3_1 p823 q823
        cases e823
        replace hx823_0 := cl_ HB.out hx823_0; replace hx823_1 := cl_ HB.out hx823_1; replace hx823_2 := cl_ HB.out hx823_2; replace hx823_3 := cl_ HB.out hx823_3; replace hx823_4 := cl_ HB.out hx823_4; replace p823 := eq_true p823; replace q823 := eq_true q823
        go_wp2
        go_ret
        exact ⟨re_, hb_⟩
       ·
        rw [if_neg c9] at H; have c9b0 : (((rd_T35 l0_4 x3_1).f0) == 3) = false := beq_eq_false_iff_ne.mpr c9; have c9b1 : (((rd_T35 l0_4 x3_1).f0) != 3) = true := bne_iff_ne.mpr c9; have H' := Aside0.mk H; clear H; have hz11 := cz5_ BK822; have p823 : 0 ≤ (x3_1 : Int) := od_; have q823 : x3_1 < (l0_4.length : Int) := od_; obtain ⟨ad823, e823, hx823_0, hx823_1, hx823_2, hx823_3, hx823_4⟩ := at_T35 HR0_4.out x3_1 p823 q823
        cases e823
        replace hx823_0 := cl_ HB.out hx823_0; replace hx823_1 := cl_ HB.out hx823_1; replace hx823_2 := cl_ HB.out hx823_2; replace hx823_3 := cl_ HB.out hx823_3; replace hx823_4 := cl_ HB.out hx823_4; replace p823 := eq_true p823; replace q823 := eq_true q823
        go_wp2
        go_roundg k1
        case measure => have := HK1.out; omega
        case rel => exact ⟨(wrap64 (x3_1 + 1)), rl_, H', ⟨by have := HK1.out; omega⟩, ⟨bY_ BK822⟩, ⟨hb_⟩⟩
    ·
     rw [if_neg c4] at H; exact absurd H (by simp)
   ·
    rw [if_neg c3] at H; have c3b0 : decide (x3_1 < (l0_4.length : Int)) = false := decide_eq_false c3; clear c3; obtain rfl := Option.some.inj H; have hz12 := cz5_ BK822
    go_wp2
    go_ret
    exact ⟨re_, hb_⟩

/-! ### slices_EqualFunc_api_Node: function 45 -/
def slices_EqualFunc_api_Node.l0 : Nat → List (S60) → List (S60) → Int → Int → Option (Bool)
 | 0, _, _, _, _ => none
 | k + 1, x1, x15, x16, x17 => if x17 < x16 then (if 0 ≤ x17 then (if x17 < (x15.length : Int) then (if x17 < (x1.length : Int) then ((dag_Same_1.f k ((rd_T60 x15 x17).f0) ((rd_T60 x15 x17).f1) ((rd_T60 x15 x17).f2) ((rd_T60 x1 x17).f0) ((rd_T60 x1 x17).f1) ((rd_T60 x1 x17).f2)).bind fun t828 => (if t828 = true then (slices_EqualFunc_api_Node.l0 k x1 x15 x16 (wrap64 (x17 + 1))) else (some false))) else (none)) else (none)) else (none)) else (some true)
def slices_EqualFunc_api_Node.f (k : Nat) (l0 : List (S60)) (l1 : List (S60)) : Option (Bool) := if (l0.length : Int) = (l1.length : Int) then (slices_EqualFunc_api_Node.l0 k l1 l0 (l0.length : Int) 0) else (some false)
set_option maxHeartbeats 8000000 in
set_option maxRecDepth 100000 in
theorem slices_EqualFunc_api_Node.calls (k : Nat) (A0 : Option Addr) (c0 : Nat) (l0 : List (S60)) (A1 : Option Addr) (c1 : Nat) (l1 : List (S60)) (r : Bool) (w : World) (hr0 : Kd.C k60 w A0 l0.length l0) (hc0 : l0.length ≤ c0) (hr1 : Kd.C k60 w A1 l1.length l1) (hc1 : l1.length ≤ c1) (h : slices_EqualFunc_api_Node.f k l0 l1 = some r) :
  Calls Try.prog 45 #[.slice A0 l0.length c0, .slice A1 l1.length c1, .func (.func 46) #[] #[]] w fun e w' => e = .returned (.bool r) ∧ Below w.heap.size w w' := by
 have hu60 := Try.underlying60; have HR0 := A_ hr0; have HC0 := A_ hc0; clear hr0 hc0; have HR1 := A_ hr1; have HC1 := A_ hc1; clear hr1 hc1; have HB := A_ (Below.refl w.heap.size w); have H : (if (l0.length : Int) = (l1.length : Int) then (slices_EqualFunc_api_Node.l0 k l1 l0 (l0.length : Int) 0) else (some false)) = some r := h; clear h
 by_cases c3 : (l0.length : Int) = (l1.length : Int)
 ·
  rw [if_pos c3] at H; have c3b0 : ((l0.length : Int) == (l1.length : Int)) = true := beq_iff_eq.mpr c3; have c3b1 : ((l0.length : Int) != (l1.length : Int)) = false := bne_eq_false_iff_eq.mpr c3; have c3b2 : (l0.length == l1.length) = true := by first | simpa using c3 | (simp at c3 ⊢; omega)
  clear c3; have H' := Aside0.mk H; clear H
  go_enter Try.func45, Try.ntmps45
  go_wp2
  go_loopg [17] k (fun kq v17 w' => ∃ (x17_1 : Int), v17 = .int .i64 x17_1 ∧ Aside0 (slices_EqualFunc_api_Node.l0 kq l1 l0 (l0.length : Int) x17_1 = some r) ∧ Aside0 (kq ≤ k) ∧ Aside0 (Below w.heap.size w w'))
  case atStart => exact ⟨(0), rl_, H', ⟨Nat.le_refl _⟩, ⟨hb_⟩⟩
  case round =>
   clear H'; (try clear c1); (try clear c3); (try clear c3b0); (try clear c3b1); (try clear c3b2); obtain ⟨x17_1, rfl, HA, HK1, HB⟩ := hrel
   cases gk with
   | zero => exact absurd HA.out (by simp [slices_EqualFunc_api_Node.l0])
   | succ k1 =>
    have H := HA.out; clear HA; simp only [slices_EqualFunc_api_Node.l0] at H
    by_cases c4 : x17_1 < (l0.length : Int)
    ·
     rw [if_pos c4] at H; have c4b0 : decide (x17_1 < (l0.length : Int)) = true := decide_eq_true c4; clear c4
     by_cases c5 : 0 ≤ x17_1
     ·
      rw [if_pos c5] at H; have c5b0 : decide (0 ≤ x17_1) = true := decide_eq_true c5; clear c5
      by_cases c6 : x17_1 < (l0.length : Int)
      ·
       rw [if_pos c6] at H; have c6b0 : decide (x17_1 < (l0.length : Int)) = true := decide_eq_true c6; clear c6
       by_cases c7 : x17_1 < (l1.length : Int)
       ·
        rw [if_pos c7] at H; have c7b0 : decide (x17_1 < (l1.length : Int)) = true := decide_eq_true c7; clear c7; replace H := Option.bind_eq_some_iff.mp H; obtain ⟨t828, A80, H⟩ := H; replace H : (if t828 = true then (slices_EqualFunc_api_Node.l0 k1 l1 l0 (l0.length : Int) (wrap64 (x17_1 + 1))) else (some false)) = some r := H; have A8 := Aside0.mk A80; clear A80
        by_cases c9 : t828 = true
        ·
         subst c9; have H1 : (slices_EqualFunc_api_Node.l0 k1 l1 l0 (l0.length : Int) (wrap64 (x17_1 + 1))) = some r := by rw [if_pos rfl] at H; exact H
         clear H; have H := H1; clear H1; have H' := Aside0.mk H; clear H; have p824 : 0 ≤ (x17_1 : Int) := od_; have q824 : x17_1 < (l0.length : Int) := od_; obtain ⟨ad824, A824_0, c824_0, e824, hx824_0, hx824_1, hx824_2, hl824_0, hi824_0⟩ := at_T60 HR0.out x17_1 p824 q824
         cases e824
         replace hx824_0 := cl_ HB.out hx824_0; replace hx824_1 := cl_ HB.out hx824_1; replace hx824_2 := cl_ HB.out hx824_2; have HR824_0 := A_ hi824_0; have HC824_0 := A_ hl824_0; clear hi824_0 hl824_0; replace p824 := eq_true p824; replace q824 := eq_true q824
         go_wp2_with (first | ((with_reducible refine gd_ 8 rfl ?_); refine by0_ 8 #[.slice none 0 0, .int .i64 0, .int .i64 0] 60 ?_; clear HB; intro gb825 w10 BK825 GE825 HB; have hz11 := cz3_ BK825; have p826 : 0 ≤ (x17_1 : Int) := od_; have q826 : x17_1 < (l1.length : Int) := od_; obtain ⟨ad826, A826_0, c826_0, e826, hx826_0, hx826_1, hx826_2, hl826_0, hi826_0⟩ := at_T60 HR1.out x17_1 p826 q826; cases e826; have hn826_0 : ad826.block ≠ gb825 := Nat.ne_of_lt (Nat.lt_of_lt_of_le (by have := World.block_lt_of_cell? _ _ hx826_0; first | rwa [add_block] at this | exact this) GE825.out); have hn826_1 : ad826.block ≠ gb825 := Nat.ne_of_lt (Nat.lt_of_lt_of_le (by have := World.block_lt_of_cell? _ _ hx826_0; first | rwa [add_block] at this | exact this) GE825.out); have hn826_2 : ad826.block ≠ gb825 := Nat.ne_of_lt (Nat.lt_of_lt_of_le (by have := World.block_lt_of_cell? _ _ hx826_0; first | rwa [add_block] at this | exact this) GE825.out); replace hx826_0 := cl_ HB.out hx826_0; replace hx826_1 := cl_ HB.out hx826_1; replace hx826_2 := cl_ HB.out hx826_2; have HR826_0 := A_ hi826_0; have HC826_0 := A_ hl826_0; clear hi826_0 hl826_0; replace hx826_0 := (cell_far (p := ⟨gb825, 0, none⟩) (by first | (rw [add_block]; exact hn826_0) | (show (Addr.add _ _).block ≠ _; rw [add_block]; exact hn826_0) | exact hn826_0) (.slice A824_0 ((rd_T60 l0 x17_1).f0).length c824_0)).trans hx826_0; replace hx826_1 := (cell_far (p := ⟨gb825, 0, none⟩) (by first | (rw [add_block]; exact hn826_0) | (show (Addr.add _ _).block ≠ _; rw [add_block]; exact hn826_0) | exact hn826_0) (.slice A824_0 ((rd_T60 l0 x17_1).f0).length c824_0)).trans hx826_1; replace hx826_2 := (cell_far (p := ⟨gb825, 0, none⟩) (by first | (rw [add_block]; exact hn826_0) | (show (Addr.add _ _).block ≠ _; rw [add_block]; exact hn826_0) | exact hn826_0) (.slice A824_0 ((rd_T60 l0 x17_1).f0).length c824_0)).trans hx826_2; replace hx826_0 := (cell_far (p := ⟨gb825, 1, none⟩) (by first | (rw [add_block]; exact hn826_1) | (show (Addr.add _ _).block ≠ _; rw [add_block]; exact hn826_1) | exact hn826_1) (.int .i64 ((rd_T60 l0 x17_1).f1))).trans hx826_0; replace hx826_1 := (cell_far (p := ⟨gb825, 1, none⟩) (by first | (rw [add_block]; exact hn826_1) | (show (Addr.add _ _).block ≠ _; rw [add_block]; exact hn826_1) | exact hn826_1) (.int .i64 ((rd_T60 l0 x17_1).f1))).trans hx826_1; replace hx826_2 := (cell_far (p := ⟨gb825, 1, none⟩) (by first | (rw [add_block]; exact hn826_1) | (show (Addr.add _ _).block ≠ _; rw [add_block]; exact hn826_1) | exact hn826_1) (.int .i64 ((rd_T60 l0 x17_1).f1))).trans hx826_2; replace hx826_0 := (cell_far (p := ⟨gb825, 2, none⟩) (by first | (rw [add_block]; exact hn826_2) | (show (Addr.add _ _).block ≠ _; rw [add_block]; exact hn826_2) | exact hn826_2) (.int .i64 ((rd_T60 l0 x17_1).f2))).trans hx826_0; replace hx826_1 := (cell_far (p := ⟨gb825, 2, none⟩) (by first | (rw [add_block]; exact hn826_2) | (show (Addr.add _ _).block ≠ _; rw [add_block]; exact hn826_2) | exact hn826_2) (.int .i64 ((rd_T60 l0 x17_1).f2))).trans hx826_1; replace hx826_2 := (cell_far (p := ⟨gb825, 2, none⟩) (by first | (rw [add_block]; exact hn826_2) | (show (Addr.add _ _).block ≠ _; rw [add_block]; exact hn826_2) | exact hn826_2) (.int .i64 ((rd_T60 l0 x17_1).f2))).trans hx826_2; clear hn826_0; clear hn826_1; clear hn826_2; replace p826 := eq_true p826; replace q826 := eq_true q826) | ((with_reducible refine gd_ 9 rfl ?_); refine bx_ 9 #[.slice none 0 0, .int .i64 0, .int .i64 0] 60 ?_; intro gb827 hg w12 hbox hb; have BK827 := A_ (hbox); have GW827 := bz_ (hG_ HB.out GE825.out) hg; have GE827 := bz_ (hG_ HB.out GE825.out) hg; replace HB := bB_ hb; have NB825_827 := A_ ((by rw [hg]; exact Nat.ne_of_lt (blk_lt (g := gb825) (o := .cells #[.slice A824_0 ((rd_T60 l0 x17_1).f0).length c824_0, .int .i64 ((rd_T60 l0 x17_1).f1), .int .i64 ((rd_T60 l0 x17_1).f2)] 60 (0, 0)) (bP_ BK825)) : gb825 ≠ gb827)); have NB827_825 := A_ ((by rw [hg]; exact Nat.ne_of_gt (blk_lt (g := gb825) (o := .cells #[.slice A824_0 ((rd_T60 l0 x17_1).f0).length c824_0, .int .i64 ((rd_T60 l0 x17_1).f1), .int .i64 ((rd_T60 l0 x17_1).f2)] 60 (0, 0)) (bP_ BK825)) : gb827 ≠ gb825)); replace BK825 := bp_ BK825 hb; clear hb hbox hg; (try clear hz11); have hnb13 := NB827_825.out; have hnc13 := NB825_827.out; have hz14 := cz3_ BK827; have hz15 := cz3_ BK825))
         (with_reducible refine (dag_Same_1.calls k1 _ _ ((rd_T60 l0 x17_1).f0) ((rd_T60 l0 x17_1).f1) ((rd_T60 l0 x17_1).f2) _ _ ((rd_T60 l1 x17_1).f0) ((rd_T60 l1 x17_1).f1) ((rd_T60 l1 x17_1).f2) true _ ?side1 ?side2 ?side3 ?side4 A8.out).mono ?_); (case side1 => exact Kd.C_below HR824_0.out hb_)
         (case side2 => exact HC824_0.out); (case side3 => exact Kd.C_below HR826_0.out hb_); (case side4 => exact HC826_0.out); rintro e w16 ⟨rfl, hb⟩; replace BK825 := bF_ BK825 NB825_827.out hb; replace BK827 := bp_ BK827 hb; replace HB := bB_ hb; (try clear hb)
         go_wp2
         go_roundg k1
         case measure => have := HK1.out; omega
         case rel => exact ⟨(wrap64 (x17_1 + 1)), rl_, H', ⟨by have := HK1.out; omega⟩, ⟨hb_⟩⟩
        ·
         replace c9 := Bool.eq_false_iff.mpr c9; subst c9; have H1 : (some false) = some r := by rw [if_neg (show ¬ (false = true) by decide)] at H; exact H
         clear H; have H := H1; clear H1; obtain rfl := Option.some.inj H; have p824 : 0 ≤ (x17_1 : Int) := od_; have q824 : x17_1 < (l0.length : Int) := od_; obtain ⟨ad824, A824_0, c824_0, e824, hx824_0, hx824_1, hx824_2, hl824_0, hi824_0⟩ := at_T60 HR0.out x17_1 p824 q824
         cases e824
         replace hx824_0 := cl_ HB.out hx824_0; replace hx824_1 := cl_ HB.out hx824_1; replace hx824_2 := cl_ HB.out hx824_2; have HR824_0 := A_ hi824_0; have HC824_0 := A_ hl824_0; clear hi824_0 hl824_0; replace p824 := eq_true p824; replace q824 := eq_true q824
         go_wp2_with (first | ((with_reducible refine gd_ 8 rfl ?_); refine by0_ 8 #[.slice none 0 0, .int .i64 0, .int .i64 0] 60 ?_; clear HB; intro gb825 w17 BK825 GE825 HB; have hz18 := cz3_ BK825; have p826 : 0 ≤ (x17_1 : Int) := od_; have q826 : x17_1 < (l1.length : Int) := od_; obtain ⟨ad826, A826_0, c826_0, e826, hx826_0, hx826_1, hx826_2, hl826_0, hi826_0⟩ := at_T60 HR1.out x17_1 p826 q826; cases e826; have hn826_0 : ad826.block ≠ gb825 := Nat.ne_of_lt (Nat.lt_of_lt_of_le (by have := World.block_lt_of_cell? _ _ hx826_0; first | rwa [add_block] at this | exact this) GE825.out); have hn826_1 : ad826.block ≠ gb825 := Nat.ne_of_lt (Nat.lt_of_lt_of_le (by have := World.block_lt_of_cell? _ _ hx826_0; first | rwa [add_block] at this | exact this) GE825.out); have hn826_2 : ad826.block ≠ gb825 := Nat.ne_of_lt (Nat.lt_of_lt_of_le (by have := World.block_lt_of_cell? _ _ hx826_0; first | rwa [add_block] at this | exact this) GE825.out); replace hx826_0 := cl_ HB.out hx826_0; replace hx826_1 := cl_ HB.out hx826_1; replace hx826_2 := cl_ HB.out hx826_2; have HR826_0 := A_ hi826_0; have HC826_0 := A_ hl826_0; clear hi826_0 hl826_0; replace hx826_0 := (cell_far (p := ⟨gb825, 0, none⟩) (by first | (rw [add_block]; exact hn826_0) | (show (Addr.add _ _).block ≠ _; rw [add_block]; exact hn826_0) | exact hn826_0) (.slice A824_0 ((rd_T60 l0 x17_1).f0).length c824_0)).trans hx826_0; replace hx826_1 := (cell_far (p := ⟨gb825, 0, none⟩) (by first | (rw [add_block]; exact hn826_0) | (show (Addr.add _ _).block ≠ _; rw [add_block]; exact hn826_0) | exact hn826_0) (.slice A824_0 ((rd_T60 l0 x17_1).f0).length c824_0)).trans hx826_1; replace hx826_2 := (cell_far (p := ⟨gb825, 0, none⟩) (by first | (rw [add_block]; exact hn826_0) | (show (Addr.add _ _).block ≠ _; rw [add_block]; exact hn826_0) | exact hn826_0) (.slice A824_0 ((rd_T60 l0 x17_1).f0).length c824_0)).trans hx826_2; replace hx826_0 := (cell_far (p := ⟨gb825, 1, none⟩) (by first | (rw [add_block]; exact hn826_1) | (show (Addr.add _ _).block ≠ _; rw [add_block]; exact hn826_1) | exact hn826_1) (.int .i64 ((rd_T60 l0 x17_1).f1))).trans hx826_0; replace hx826_1 := (cell_far (p := ⟨gb825, 1, none⟩) (by first | (rw [add_block]; exact hn826_1) | (show (Addr.add _ _).block ≠ _; rw [add_block]; exact hn826_1) | exact hn826_1) (.int .i64 ((rd_T60 l0 x17_1).f1))).trans hx826_1; replace hx826_2 := (cell_far (p := ⟨gb825, 1, none⟩) (by first | (rw [add_block]; exact hn826_1) | (show (Addr.add _ _).block ≠ _; rw [add_block]; exact hn826_1) | exact hn826_1) (.int .i64 ((rd_T60 l0 x17_1).f1))).trans hx826_2; replace hx826_0 := (cell_far (p := ⟨gb825, 2, none⟩) (by first | (rw [add_block]; exact hn826_2) | (show (Addr.add _ _).block ≠ _; rw [add_block]; exact hn826_2) | exact hn826_2) (.int .i64 ((rd_T60 l0 x17_1).f2))).trans hx826_0; replace hx826_1 := (cell_far (p := ⟨gb825, 2, none⟩) (by first | (rw [add_block]; exact hn826_2) | (show (Addr.add _ _).block ≠ _; rw [add_block]; exact hn826_2) | exact hn826_2) (.int .i64 ((rd_T60 l0 x17_1).f2))).trans hx826_1; replace hx826_2 := (cell_far (p := ⟨gb825, 2, none⟩) (by first | (rw [add_block]; exact hn826_2) | (show (Addr.add _ _).block ≠ _; rw [add_block]; exact hn826_2) | exact hn826_2) (.int .i64 ((rd_T60 l0 x17_1).f2))).trans hx826_2; clear hn826_0; clear hn826_1; clear hn826_2; replace p826 := eq_true p826; replace q826 := eq_true q826) | ((with_reducible refine gd_ 9 rfl ?_); refine bx_ 9 #[.slice none 0 0, .int .i64 0, .int .i64 0] 60 ?_; intro gb827 hg w19 hbox hb; have BK827 := A_ (hbox); have GW827 := bz_ (hG_ HB.out GE825.out) hg; have GE827 := bz_ (hG_ HB.out GE825.out) hg; replace HB := bB_ hb; have NB825_827 := A_ ((by rw [hg]; exact Nat.ne_of_lt (blk_lt (g := gb825) (o := .cells #[.slice A824_0 ((rd_T60 l0 x17_1).f0).length c824_0, .int .i64 ((rd_T60 l0 x17_1).f1), .int .i64 ((rd_T60 l0 x17_1).f2)] 60 (0, 0)) (bP_ BK825)) : gb825 ≠ gb827)); have NB827_825 := A_ ((by rw [hg]; exact Nat.ne_of_gt (blk_lt (g := gb825) (o := .cells #[.slice A824_0 ((rd_T60 l0 x17_1).f0).length c824_0, .int .i64 ((rd_T60 l0 x17_1).f1), .int .i64 ((rd_T60 l0 x17_1).f2)] 60 (0, 0)) (bP_ BK825)) : gb827 ≠ gb825)); replace BK825 := bp_ BK825 hb; clear hb hbox hg; (try clear hz18); have hnb20 := NB827_825.out; have hnc20 := NB825_827.out; have hz21 := cz3_ BK827; have hz22 := cz3_ BK825))
         (with_reducible refine (dag_Same_1.calls k1 _ _ ((rd_T60 l0 x17_1).f0) ((rd_T60 l0 x17_1).f1) ((rd_T60 l0 x17_1).f2) _ _ ((rd_T60 l1 x17_1).f0) ((rd_T60 l1 x17_1).f1) ((rd_T60 l1 x17_1).f2) false _ ?side1 ?side2 ?side3 ?side4 A8.out).mono ?_); (case side1 => exact Kd.C_below HR824_0.out hb_)
         (case side2 => exact HC824_0.out); (case side3 => exact Kd.C_below HR826_0.out hb_); (case side4 => exact HC826_0.out); rintro e w23 ⟨rfl, hb⟩; replace BK825 := bF_ BK825 NB825_827.out hb; replace BK827 := bp_ BK827 hb; replace HB := bB_ hb; (try clear hb)
         go_wp2
         go_ret
         exact ⟨re_, hb_⟩
       ·
        rw [if_neg c7] at H; exact absurd H (by simp)
      ·
       rw [if_neg c6] at H; exact absurd H (by simp)
     ·
      rw [if_neg c5] at H; exact absurd H (by simp)
    ·
     rw [if_neg c4] at H; have c4b0 : decide (x17_1 < (l0.length : Int)) = false := decide_eq_false c4; clear c4; obtain rfl := Option.some.inj H
     go_wp2
     go_ret
     exact ⟨re_, hb_⟩
 ·
  rw [if_neg c3] at H; have c3b0 : ((l0.length : Int) == (l1.length : Int)) = false := beq_eq_false_iff_ne.mpr c3; have c3b1 : ((l0.length : Int) != (l1.length : Int)) = true := bne_iff_ne.mpr c3; have c3b2 : (l0.length == l1.length) = false := by first | simpa using c3 | (simp at c3 ⊢; omega)
  obtain rfl := Option.some.inj H
  go_enter Try.func45, Try.ntmps45
  go_wp2
  go_ret
  exact ⟨re_, hb_⟩

/-! ### dag_Same: function 23 -/
def dag_Same.f (k : Nat) (l0_0 : List (S60)) (l1_0 : List (S60)) : Option (Bool) := (slices_EqualFunc_api_Node.f k l0_0 l1_0).bind fun t831 => (some t831)
set_option maxHeartbeats 8000000 in
set_option maxRecDepth 100000 in
theorem dag_Same.calls (k : Nat) (A0_0 : Option Addr) (c0_0 : Nat) (l0_0 : List (S60)) (A1_0 : Option Addr) (c1_0 : Nat) (l1_0 : List (S60)) (r : Bool) (w : World) (hr0_0 : Kd.C k60 w A0_0 l0_0.length l0_0) (hc0_0 : l0_0.length ≤ c0_0) (hr1_0 : Kd.C k60 w A1_0 l1_0.length l1_0) (hc1_0 : l1_0.length ≤ c1_0) (h : dag_Same.f k l0_0 l1_0 = some r) :
  Calls Try.prog 23 #[.agg #[.slice A0_0 l0_0.length c0_0], .agg #[.slice A1_0 l1_0.length c1_0]] w fun e w' => e = .returned (.bool r) ∧ Below w.heap.size w w' := by
 have hu24 := Try.underlying24; have HR0_0 := A_ hr0_0; have HC0_0 := A_ hc0_0; clear hr0_0 hc0_0; have HR1_0 := A_ hr1_0; have HC1_0 := A_ hc1_0; clear hr1_0 hc1_0; have HB := A_ (Below.refl w.heap.size w); have H : ((slices_EqualFunc_api_Node.f k l0_0 l1_0).bind fun t831 => (some t831)) = some r := h; clear h; replace H := Option.bind_eq_some_iff.mp H; obtain ⟨t831, A30, H⟩ := H; replace H : (some t831) = some r := H; have A3 := Aside0.mk A30; clear A30; obtain rfl := Option.some.inj H
 go_enter Try.func23, Try.ntmps23
 go_wp2_with (first | ((with_reducible refine gd_ 2 rfl ?_); refine by0_ 2 #[.slice A0_0 l0_0.length c0_0] 24 ?_; clear HB; intro gb829 w4 BK829 GE829 HB; have GW829 := GE829) | ((with_reducible refine gd_ 3 rfl ?_); refine by1_ 3 #[.slice A1_0 l1_0.length c1_0] 24 BK829 ?_; clear HB BK829; intro gb830 w5 BK830 GE830 HB NB829_830 NB830_829 BK829; have hnb6 := NB829_830.out; have hnc6 := NB830_829.out; have hcz7_0 : w5.cell? ⟨gb829, 0, none⟩ = some (.slice A0_0 l0_0.length c0_0) := ck_ BK829 0; have hfz7_0 := blk_frozen BK829.out 0; have hcz8_0 : w5.cell? ⟨gb830, 0, none⟩ = some (.slice A1_0 l1_0.length c1_0) := ck_ BK830 0; have hfz8_0 := blk_frozen BK830.out 0) | ((with_reducible refine gc_ 45 rfl ?_); refine gL_ (some 9) Try.func45 #[.slice A0_0 l0_0.length c0_0, .slice A1_0 l1_0.length c1_0, .func (.func 46) #[] #[]] ?_; (with_reducible refine (slices_EqualFunc_api_Node.calls k _ _ l0_0 _ _ l1_0 t831 _ ?side1 ?side2 ?side3 ?side4 A3.out).mono ?_); (case side1 => exact cB_ HR0_0); (case side2 => exact HC0_0.out); (case side3 => exact cB_ HR1_0); (case side4 => exact HC1_0.out); rintro e w9 ⟨rfl, hb⟩; refine ⟨_, rfl, ?_⟩; replace BK829 := bs_ BK829 hb; replace BK830 := bs_ BK830 hb; replace HB := bB_ hb; (try clear hb)))
 go_ret
 exact ⟨re_, hb_⟩

end Go.Proofs.Ytbiphljdommacaa.R

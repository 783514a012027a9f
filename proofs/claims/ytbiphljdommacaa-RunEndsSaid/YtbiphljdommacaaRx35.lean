/- Contracts of Go functions and what they come to, over the translation of this seat: made by a program of this session (print2.py). -/
import Derived.Test.YtbiphljdommacaaS3
import Derived.Test.YtbiphljdommacaaSh
import Derived.Test.YtbiphljdommacaaRCl
import Derived.Test.YtbiphljdommacaaRx0
import Derived.Test.YtbiphljdommacaaRx6
import Derived.Test.YtbiphljdommacaaRx11
import Derived.Test.YtbiphljdommacaaRx25
import Derived.Test.YtbiphljdommacaaRx27
import Derived.Test.YtbiphljdommacaaRx30
import Derived.Test.YtbiphljdommacaaRx32
import Derived.Test.YtbiphljdommacaaRx33
import Derived.Test.YtbiphljdommacaaRx34
namespace Go.Proofs.Ytbiphljdommacaa.R
open Go.RowKit Go.Proofs.Ytbiphljdommacaa.S3 Go.Proofs.Ytbiphljdommacaa.Sh Go.Proofs.Ytbiphljdommacaa.Co Go.Proofs.Ytbiphljdommacaa.Ret Go.Proofs.Ytbiphljdommacaa.Plain Go.Proofs.YtbiphljdommacaaW.PrintWords Go.Proofs.YtbiphljdommacaaW.PrintLast Go.Proofs.YtbiphljdommacaaW.PrintMore Go.Proofs.Ytbiphljdommacaa.Ti
attribute [local go_sem] max2_int min2_int max_two min_two max_three min_three max_four min_four   -- for this text's walks alone
set_option linter.unusedVariables false
set_option linter.unusedSimpArgs false

/-! ### millhandlaw25_alive: function 7 -/
def millhandlaw25_alive.j0 : Nat → Bool → Int → ByteArray → List (S60) → Int → List (S35) → Option (Bool)
 | 0, _, _, _, _, _, _ => none
 | k + 1, x30, x461000, x461001, x461002, x461003, x461004 => if x30 = true then (some false) else ((run_Lease.f k x461000 x461001 x461002 x461003 x461004 1 9 20).bind fun bt463 => ((run_Complete.f k bt463.1 bt463.2.1 bt463.2.2.1 bt463.2.2.2.1 bt463.2.2.2.2.1 1 9 6).bind fun bt473 => (if bt463.2.2.2.2.2 = 0 then (if bt473.2.2.2.2.2.2 = 0 then (if bt473.2.2.2.2.2.1 = 7 then ((millhandlaw25_states.f k bt473.1 bt473.2.1 bt473.2.2.1 bt473.2.2.2.1 bt473.2.2.2.2.1).bind fun t484 => (if t484.toList = ([48, 52, 49] : List UInt8) then (if 2 < (bt473.2.2.2.2.1.length : Int) then (some (((rd_T35 bt473.2.2.2.2.1 2).f4) == 6)) else (none)) else (some false))) else (some false)) else (some false)) else (some false))))
def millhandlaw25_alive.f (k : Nat)  : Option (Bool) := (millhandlaw25_three.f).bind fun t446 => ((run_Start.f k 1 (⟨#[97]⟩ : ByteArray) t446 5).bind fun bt449 => (if bt449.2.2.2.2.2.2 = 0 then (if bt449.2.2.2.2.2.1 = 6 then ((millhandlaw25_states.f k bt449.1 bt449.2.1 bt449.2.2.1 bt449.2.2.2.1 bt449.2.2.2.2.1).bind fun t461 => (if t461.toList = ([48, 49, 48] : List UInt8) then (if 1 < (bt449.2.2.2.2.1.length : Int) then (millhandlaw25_alive.j0 k (((rd_T35 bt449.2.2.2.2.1 1).f4) != 5) bt449.1 bt449.2.1 bt449.2.2.1 bt449.2.2.2.1 bt449.2.2.2.2.1) else (none)) else (millhandlaw25_alive.j0 k true bt449.1 bt449.2.1 bt449.2.2.1 bt449.2.2.2.1 bt449.2.2.2.2.1))) else (millhandlaw25_alive.j0 k true bt449.1 bt449.2.1 bt449.2.2.1 bt449.2.2.2.1 bt449.2.2.2.2.1)) else (millhandlaw25_alive.j0 k true bt449.1 bt449.2.1 bt449.2.2.1 bt449.2.2.2.1 bt449.2.2.2.2.1)))
theorem millhandlaw25_alive.mono_l : ∀ k, (∀ y0 y1 y2 y3 y4 y5, LeO (millhandlaw25_alive.j0 k y0 y1 y2 y3 y4 y5) (millhandlaw25_alive.j0 (k + 1) y0 y1 y2 y3 y4 y5))
 | 0 => fun _ _ _ _ _ _ r h => by simp [millhandlaw25_alive.j0] at h
 | k + 1 => by
  have ih0 := millhandlaw25_alive.mono_l k
  ·
   intro y0 y1 y2 y3 y4 y5
   unfold millhandlaw25_alive.j0
   repeat' first
   | (with_reducible exact LeO.refl _)
   | (with_reducible refine LeO.ite ?_ ?_)
   | (with_reducible refine LeO.bind ?_ (fun _ => ?_))
   | exact ih0 _ _ _ _ _ _
   | exact millhandlaw25_states.mono _ _ _ _ _ _
   | exact run_Complete.mono _ _ _ _ _ _ _ _ _
   | exact run_Lease.mono _ _ _ _ _ _ _ _ _
   | exact run_Start.mono _ _ _ _ _
   | exact LeO.none _
   | refine LeO.ite ?_ ?_
   | refine LeO.bind ?_ (fun _ => ?_)
theorem millhandlaw25_alive.mono : ∀ k, LeO (millhandlaw25_alive.f k ) (millhandlaw25_alive.f (k + 1) ) := by
 intro  k
 have ih0 := millhandlaw25_alive.mono_l k
 unfold millhandlaw25_alive.f
 repeat' first
   | (with_reducible exact LeO.refl _)
   | (with_reducible refine LeO.ite ?_ ?_)
   | (with_reducible refine LeO.bind ?_ (fun _ => ?_))
   | exact ih0 _ _ _ _ _ _
   | exact millhandlaw25_states.mono _ _ _ _ _ _
   | exact run_Complete.mono _ _ _ _ _ _ _ _ _
   | exact run_Lease.mono _ _ _ _ _ _ _ _ _
   | exact run_Start.mono _ _ _ _ _
   | exact LeO.none _
   | refine LeO.ite ?_ ?_
   | refine LeO.bind ?_ (fun _ => ?_)
theorem millhandlaw25_alive_j0_true {k : Nat} {y1_ : _} {y2_ : _} {y3_ : _} {y4_ : _} {y5_ : _} {r : Bool} (h : millhandlaw25_alive.j0 k true y1_ y2_ y3_ y4_ y5_ = some r) : false = r := by
 cases k with
 | zero => simp [millhandlaw25_alive.j0] at h
 | succ k => simpa [millhandlaw25_alive.j0] using h
theorem alive_true (k : Nat) (r : Bool) (h : millhandlaw25_alive.f k = some r) : r = true := by
 have h1 := at_rounds millhandlaw25_alive.mono (show k ≤ k + 60 by omega) h
 have h2 : millhandlaw25_alive.f (k + 60) = some true := at_rounds millhandlaw25_alive.mono (show 60 ≤ k + 60 by omega) (by decide +kernel)
 exact Option.some.inj (h1.symm.trans h2)
set_option maxHeartbeats 8000000 in
set_option maxRecDepth 100000 in
theorem millhandlaw25_alive.calls (k : Nat)  (r : Bool) (w : World) (h : millhandlaw25_alive.f k  = some r) :
  Calls Try.prog 7 #[] w fun e w' => e = .returned (.bool r) ∧ Below w.heap.size w w' := by
 have hr : r = true := alive_true k r h; have hu29 := Try.underlying29; have HB := A_ (Below.refl w.heap.size w); have H : ((millhandlaw25_three.f).bind fun t446 => ((run_Start.f k 1 (⟨#[97]⟩ : ByteArray) t446 5).bind fun bt449 => (if bt449.2.2.2.2.2.2 = 0 then (if bt449.2.2.2.2.2.1 = 6 then ((millhandlaw25_states.f k bt449.1 bt449.2.1 bt449.2.2.1 bt449.2.2.2.1 bt449.2.2.2.2.1).bind fun t461 => (if t461.toList = ([48, 49, 48] : List UInt8) then (if 1 < (bt449.2.2.2.2.1.length : Int) then (millhandlaw25_alive.j0 k (((rd_T35 bt449.2.2.2.2.1 1).f4) != 5) bt449.1 bt449.2.1 bt449.2.2.1 bt449.2.2.2.1 bt449.2.2.2.2.1) else (none)) else (millhandlaw25_alive.j0 k true bt449.1 bt449.2.1 bt449.2.2.1 bt449.2.2.2.1 bt449.2.2.2.2.1))) else (millhandlaw25_alive.j0 k true bt449.1 bt449.2.1 bt449.2.2.1 bt449.2.2.2.1 bt449.2.2.2.2.1)) else (millhandlaw25_alive.j0 k true bt449.1 bt449.2.1 bt449.2.2.1 bt449.2.2.2.1 bt449.2.2.2.2.1)))) = some r := h; clear h; replace H := Option.bind_eq_some_iff.mp H; obtain ⟨t446, A10, H⟩ := H
 try dsimp only at H
 have A1 := Aside0.mk A10; clear A10; replace H := Option.bind_eq_some_iff.mp H; obtain ⟨⟨t449, t450, t451, t454, t455, t458, t459⟩, A20, H⟩ := H
 try dsimp only at H
 have A2 := Aside0.mk A20; clear A20; have HC3 := Aside0.mk H; clear H
 go_enter Try.func7, Try.ntmps7
 go_upto_region 2 with (first | ((with_reducible refine gc_ 11 rfl ?_); refine gL_ (some 7) Try.func11 #[] ?_; (with_reducible refine (millhandlaw25_three.calls  t446 _ A1.out).mono ?_); rintro e w4 ⟨v447, rfl, ho0, hb⟩; refine ⟨_, rfl, ?_⟩; have HO448 := A_ (Kd.N_lower (Kd.N_mono (ok' := fun k_ => True) ho0 (fun k_ hk_ => trivial)) (below_size (hB_ HB.out))); replace HB := bB_ hb; (try clear hb); (try clear hk); (try clear ho0); obtain ⟨Ao5, co5, eo5⟩ := Kd.N_slice HO448.out; subst eo5) | ((with_reducible refine gc_ 8 rfl ?_); refine gL_ (some 8) Try.func8 #[.int .i64 1, .string (⟨#[97]⟩ : ByteArray), .agg #[.slice Ao5 t446.length co5], .int .i64 5] ?_; (with_reducible refine (run_Start.calls k 1 (⟨#[97]⟩ : ByteArray) _ _ t446 5 t449 t450 t451 t454 t455 t458 t459 _ ?side1 ?side2 A2.out).mono ?_); (case side1 => exact cX_ (Kd.N_reads' HO448.out).2.2); (case side2 => exact (Kd.N_reads' HO448.out).2.1); rintro e w6 ⟨v452, v456, rfl, ho0, ho1, hb⟩; refine ⟨_, rfl, ?_⟩; have HO453 := A_ (Kd.N_lower (Kd.N_mono (ok' := fun k_ => some k_ ≠ (v456 : Value).ownBlock ∧ some k_ ≠ (.slice Ao5 t446.length co5 : Value).ownBlock) (Kd.S_N (Kd.S_bound (Kd.S_apart' ho0 (Kd.R_typed ho1) (by decide)))) (fun k_ hk_ => ⟨hk_.1.2, (Kd.fresh' (Kd.N_lt (rn_ HO448.out)) k_ hk_.2.1)⟩)) (below_size (hB_ HB.out))); replace HO448 := A_ (Kd.N_mono (Kd.N_told (Kd.N_told (Kd.N_old (rn_ HO448.out) hb) (by first | exact Kd.N_base ho0 | exact Kd.S_base ho0)) (Kd.R_base ho1)) (fun _ h_ => h_.1)); have HO457 := A_ (Kd.R_lower ho1 (below_size (hB_ HB.out))); replace HB := bB_ hb; (try clear hb); (try clear hk); (try clear ho0); (try clear ho1)) | ((with_reducible refine gd_ 1 rfl ?_); refine bx_ 1 #[.int .i64 0, .string (⟨#[]⟩ : ByteArray), .slice none 0 0, .int .u8 0, .slice none 0 0] 29 ?_; intro gb460 hg w7 hbox hb; replace HO448 := A_ (Kd.N_below (Kd.N_elderB (rn_ HO448.out) gb460 (Nat.le_of_eq hg.symm)) hb); replace HO453 := A_ (Kd.N_below (Kd.N_elderB (rn_ HO453.out) gb460 (Nat.le_of_eq hg.symm)) hb); replace HO457 := A_ (Kd.R_below (rr_ HO457.out) hb); have BK460 := A_ (hbox); have GW460 := bz_ (hB_ HB.out) hg; have GE460 := bz_ (hB_ HB.out) hg; replace HB := bB_ hb; clear hb hbox hg; have hz8 := cz5_ BK460; obtain ⟨Ao9, co9, eo9⟩ := Kd.N_slice HO453.out; subst eo9; obtain ⟨Ao10, co10, eo10⟩ := Kd.R_slice HO457.out; subst eo10))
 (try simp only [Act.put, sa_, s0_, s1_])
 go_cut [30] (fun v30 wc => ∃ (kq : Nat) (x30_2 : Bool), v30 = .bool x30_2 ∧ Aside0 (millhandlaw25_alive.j0 kq x30_2 t449 t450 t451 t454 t455 = some r) ∧ Aside0 (kq ≤ k) ∧ Aside0 (Kd.N k60 60 wc w.heap.size (fun k_ => some k_ ≠ ((.slice Ao10 t455.length co10) : Value).ownBlock ∧ k_ ≠ gb460) (.slice Ao9 t451.length co9) t451) ∧ Aside0 (Kd.R k35 35 wc w.heap.size (fun _ => True) (.slice Ao10 t455.length co10) t455) ∧ Aside0 (wc.heap[gb460]? = some (.cells #[.int .i64 t449, .string t450, (.slice Ao9 t451.length co9), .int .u8 t454, (.slice Ao10 t455.length co10)] 29 (0, 0))) ∧ Aside0 (Below w.heap.size w wc))
 case first =>
  have H := HC3.out; clear HC3
  by_cases c11 : t459 = 0
  ·
   rw [if_pos c11] at H; have c11b0 : (t459 == 0) = true := beq_iff_eq.mpr c11; have c11b1 : (t459 != 0) = false := bne_eq_false_iff_eq.mpr c11; clear c11
   (first | rw [c11b0] | (simp only [i64_w, i32_w]; rw [c11b0]) | skip)
   by_cases c12 : t458 = 6
   ·
    rw [if_pos c12] at H; have c12b0 : (t458 == 6) = true := beq_iff_eq.mpr c12; have c12b1 : (t458 != 6) = false := bne_eq_false_iff_eq.mpr c12; clear c12; replace H := Option.bind_eq_some_iff.mp H; obtain ⟨t461, A130, H⟩ := H
    try dsimp only at H
    have A13 := Aside0.mk A130; clear A130
    by_cases c14 : t461.toList = ([48, 49, 48] : List UInt8)
    ·
     rw [if_pos c14] at H; have c14b0 : (t461.toList == ([48, 49, 48] : List UInt8)) = true := beq_iff_eq.mpr c14; have c14b1 : (t461.toList != ([48, 49, 48] : List UInt8)) = false := bne_eq_false_iff_eq.mpr c14; clear c14
     by_cases c15 : 1 < (t455.length : Int)
     ·
      rw [if_pos c15] at H; have c15b0 : decide (1 < (t455.length : Int)) = true := decide_eq_true c15; have c15b1 : decide (1 < t455.length) = true := decide_eq_true (by omega); clear c15; have H' := Aside0.mk H; clear H; have hz16 := cz5_ BK460
      go_wp2_with (first | (go_at_call 14; (with_reducible refine (millhandlaw25_states.calls k t449 t450 _ _ t451 t454 _ _ t455 t461 _ ?side1 ?side2 ?side3 ?side4 A13.out).mono ?_); (case side1 => refine (Kd.N_reads' (e := 60) (base := w.heap.size) (ok := fun k_ => ((some k_ ≠ (.slice Ao10 t455.length co10 : Value).ownBlock ∧ some k_ ≠ (.slice Ao5 t446.length co5 : Value).ownBlock) ∧ k_ ≠ gb460)) (n := t451.length) (c := co9) ?_).2.2; exact (rn_ (Kd.N_mono (nF5_ gb460 (Kd.N_mono HO453.out (fun k_ hk => (⟨hk, hk.2⟩ : _ ∧ k_ ≠ gb460))) (fun _ hk => hk.2)) (fun _ h_ => h_.1)))); (case side2 => exact (Kd.N_reads' HO453.out).2.1); (case side3 => refine (Kd.R_reads' (e := 35) (base := w.heap.size) (ok := fun k_ => True) (n := t455.length) (c := co10) ?_).2.2; exact (rr_ (Kd.R_mono (rF5_ gb460 (Kd.R_types HO457.out BK460.out (by decide)) (fun _ hk => hk.2)) (fun _ h_ => h_.1)))); (case side4 => exact (Kd.R_reads' HO457.out).2.1); rintro e w17 ⟨rfl, hb⟩; replace HO448 := A_ (Kd.N_below (rn_ (Kd.N_mono (nF5_ gb460 (Kd.N_mono HO448.out (fun k_ hk => (⟨hk, hk.2⟩ : _ ∧ k_ ≠ gb460))) (fun _ hk => hk.2)) (fun _ h_ => h_.1))) hb); replace HO453 := A_ (Kd.N_below (rn_ (Kd.N_mono (nF5_ gb460 (Kd.N_mono HO453.out (fun k_ hk => (⟨hk, hk.2⟩ : _ ∧ k_ ≠ gb460))) (fun _ hk => hk.2)) (fun _ h_ => h_.1))) hb); replace HO457 := A_ (Kd.R_below (rr_ (Kd.R_mono (rF5_ gb460 (Kd.R_types HO457.out BK460.out (by decide)) (fun _ hk => hk.2)) (fun _ h_ => h_.1))) hb); replace BK460 := bp_ BK460 hb; replace HB := bB_ hb; (try clear hb); (try clear hk); have hz18 := cz5_ BK460; have p462 : 0 ≤ (1 : Int) := (by omega); have q462 : 1 < (t455.length : Int) := od_; obtain ⟨ad462, e462, hx462_0, hx462_1, hx462_2, hx462_3, hx462_4⟩ := at_T35 (Kd.R_reads' HO457.out).2.2 1 p462 q462; cases e462; (try simp only [show (1 : Int).toNat = 1 from rfl, Nat.reduceMul, Nat.reduceEqDiff, Go.Addr.add, ↓reduceIte] at hx462_0); (try simp only [show (1 : Int).toNat = 1 from rfl, Nat.reduceMul, Nat.reduceEqDiff, Go.Addr.add, ↓reduceIte] at hx462_1); (try simp only [show (1 : Int).toNat = 1 from rfl, Nat.reduceMul, Nat.reduceEqDiff, Go.Addr.add, ↓reduceIte] at hx462_2); (try simp only [show (1 : Int).toNat = 1 from rfl, Nat.reduceMul, Nat.reduceEqDiff, Go.Addr.add, ↓reduceIte] at hx462_3); (try simp only [show (1 : Int).toNat = 1 from rfl, Nat.reduceMul, Nat.reduceEqDiff, Go.Addr.add, ↓reduceIte] at hx462_4); have qi462 : (1 < t455.length) = True := eq_true (by omega); (try rw [show ((1 : Int)).toNat = 1 from rfl] at hx462_0); (try rw [show 1 * 5 = 5 from rfl] at hx462_0); (try rw [show ((1 : Int)).toNat = 1 from rfl] at hx462_1); (try rw [show 1 * 5 = 5 from rfl] at hx462_1); (try rw [show ((1 : Int)).toNat = 1 from rfl] at hx462_2); (try rw [show 1 * 5 = 5 from rfl] at hx462_2); (try rw [show ((1 : Int)).toNat = 1 from rfl] at hx462_3); (try rw [show 1 * 5 = 5 from rfl] at hx462_3); (try rw [show ((1 : Int)).toNat = 1 from rfl] at hx462_4); (try rw [show 1 * 5 = 5 from rfl] at hx462_4); replace p462 := eq_true p462; replace q462 := eq_true q462))
      go_meet
      case rel => exact ⟨_, ((((rd_T35 t455 1).f4) != 5)), rl_, H', ⟨le_⟩, ⟨rn_ (Kd.N_mono HO453.out (fun _ hk => ⟨hk.1.1, hk.2⟩))⟩, ⟨rr_ HO457.out⟩, ⟨bY_ BK460⟩, ⟨hb_⟩⟩
     ·
      rw [if_neg c15] at H; exact absurd H (by simp)
    ·
     rw [if_neg c14] at H; exact absurd ((millhandlaw25_alive_j0_true H).trans hr) (by decide)
   ·
    rw [if_neg c12] at H; exact absurd ((millhandlaw25_alive_j0_true H).trans hr) (by decide)
  ·
   rw [if_neg c11] at H; exact absurd ((millhandlaw25_alive_j0_true H).trans hr) (by decide)
 case rest =>
  clear HC3; (try clear c11); (try clear c11b0); (try clear c11b1); (try clear c12); (try clear c12b0); (try clear c12b1); (try clear c14); (try clear c14b0); (try clear c14b1); (try clear c15); (try clear c15b0); (try clear c15b1); (try clear hz16); (try clear hz18); (try clear hz8); (try clear hx462_0); (try clear hx462_1); (try clear hx462_2); (try clear hx462_3); (try clear hx462_4); (try clear p462); (try clear q462); obtain ⟨kq, x30_2, rfl, HA, HJ2, HO_461002, HO_461004, BK460, HB⟩ := hcut
  cases kq with
  | zero => exact absurd HA.out (by simp [millhandlaw25_alive.j0])
  | succ kj2 =>
   have H := HA.out; clear HA; simp only [millhandlaw25_alive.j0] at H
   by_cases c21 : x30_2 = true
   ·
    subst c21; have H1 : (some false) = some r := by rw [if_pos rfl] at H; exact H
    clear H; have H := H1; clear H1; obtain rfl := Option.some.inj H
    go_wp2
    go_ret
    exact ⟨re_, hb_⟩
   ·
    replace c21 := Bool.eq_false_iff.mpr c21; subst c21; have H1 : ((run_Lease.f kj2 t449 t450 t451 t454 t455 1 9 20).bind fun bt463 => ((run_Complete.f kj2 bt463.1 bt463.2.1 bt463.2.2.1 bt463.2.2.2.1 bt463.2.2.2.2.1 1 9 6).bind fun bt473 => (if bt463.2.2.2.2.2 = 0 then (if bt473.2.2.2.2.2.2 = 0 then (if bt473.2.2.2.2.2.1 = 7 then ((millhandlaw25_states.f kj2 bt473.1 bt473.2.1 bt473.2.2.1 bt473.2.2.2.1 bt473.2.2.2.2.1).bind fun t484 => (if t484.toList = ([48, 52, 49] : List UInt8) then (if 2 < (bt473.2.2.2.2.1.length : Int) then (some (((rd_T35 bt473.2.2.2.2.1 2).f4) == 6)) else (none)) else (some false))) else (some false)) else (some false)) else (some false)))) = some r := by rw [if_neg (show ¬ (false = true) by decide)] at H; exact H
    clear H; have H := H1; clear H1; replace H := Option.bind_eq_some_iff.mp H; obtain ⟨⟨t463, t464, t465, t468, t469, t472⟩, A220, H⟩ := H
    try dsimp only at H
    have A22 := Aside0.mk A220; clear A220; replace H := Option.bind_eq_some_iff.mp H; obtain ⟨⟨t473, t474, t475, t478, t479, t482, t483⟩, A230, H⟩ := H
    try dsimp only at H
    have A23 := Aside0.mk A230; clear A230
    by_cases c24 : t472 = 0
    ·
     rw [if_pos c24] at H; have c24b0 : (t472 == 0) = true := beq_iff_eq.mpr c24; have c24b1 : (t472 != 0) = false := bne_eq_false_iff_eq.mpr c24; clear c24
     by_cases c25 : t483 = 0
     ·
      rw [if_pos c25] at H; have c25b0 : (t483 == 0) = true := beq_iff_eq.mpr c25; have c25b1 : (t483 != 0) = false := bne_eq_false_iff_eq.mpr c25; clear c25
      by_cases c26 : t482 = 7
      ·
       rw [if_pos c26] at H; have c26b0 : (t482 == 7) = true := beq_iff_eq.mpr c26; have c26b1 : (t482 != 7) = false := bne_eq_false_iff_eq.mpr c26; clear c26; replace H := Option.bind_eq_some_iff.mp H; obtain ⟨t484, A270, H⟩ := H; replace H : (if t484.toList = ([48, 52, 49] : List UInt8) then (if 2 < (t479.length : Int) then (some (((rd_T35 t479 2).f4) == 6)) else (none)) else (some false)) = some r := H; have A27 := Aside0.mk A270; clear A270
       by_cases c28 : t484.toList = ([48, 52, 49] : List UInt8)
       ·
        rw [if_pos c28] at H; have c28b0 : (t484.toList == ([48, 52, 49] : List UInt8)) = true := beq_iff_eq.mpr c28; have c28b1 : (t484.toList != ([48, 52, 49] : List UInt8)) = false := bne_eq_false_iff_eq.mpr c28; clear c28
        by_cases c29 : 2 < (t479.length : Int)
        ·
         rw [if_pos c29] at H; have c29b0 : decide (2 < (t479.length : Int)) = true := decide_eq_true c29; have c29b1 : decide (2 < t479.length) = true := decide_eq_true (by omega); clear c29; obtain rfl := Option.some.inj H; have hz30 := cz5_ BK460
         go_wp2_with (first | ((with_reducible refine gc_ 9 rfl ?_); refine gL_ (some 33) Try.func9 #[.agg #[.int .i64 t449, .string t450, .slice Ao9 t451.length co9, .int .u8 t454, .slice Ao10 t455.length co10], .int .i64 1, .int .i64 9, .int .i64 20] ?_; (with_reducible refine (run_Lease.calls kj2 t449 t450 _ _ t451 t454 _ _ t455 1 9 20 t463 t464 t465 t468 t469 t472 _ ?side1 ?side2 ?side3 ?side4 A22.out).mono ?_); (case side1 => exact cX_ (Kd.N_reads' HO_461002.out).2.2); (case side2 => exact (Kd.N_reads' HO_461002.out).2.1); (case side3 => exact cX_ (Kd.R_reads' HO_461004.out).2.2); (case side4 => exact (Kd.R_reads' HO_461004.out).2.1); rintro e w31 ⟨v466, v470, rfl, ho0, ho1, hb⟩; refine ⟨_, rfl, ?_⟩; have HO467 := A_ (Kd.N_lower (Kd.N_mono (ok' := fun k_ => some k_ ≠ (v470 : Value).ownBlock ∧ some k_ ≠ (.slice Ao9 t451.length co9 : Value).ownBlock ∧ some k_ ≠ (.slice Ao10 t455.length co10 : Value).ownBlock ∧ k_ ≠ gb460) (Kd.S_N (Kd.S_bound (Kd.S_apart' ho0 (Kd.R_typed ho1) (by decide)))) (fun k_ hk_ => ⟨hk_.1.2, (Kd.fresh' (Kd.N_lt (rn_ HO_461002.out)) k_ hk_.2.1), (Kd.fresh' (Kd.R_lt (rr_ HO_461004.out)) k_ hk_.2.1), (Kd.freshB (g := gb460) (o := .cells #[.int .i64 t449, .string t450, .slice Ao9 t451.length co9, .int .u8 t454, .slice Ao10 t455.length co10] 29 (0, 0)) (bY_ BK460) k_ hk_.2.1)⟩)) (below_size (hB_ HB.out))); replace HO_461002 := A_ (Kd.N_mono (Kd.N_told (Kd.N_told (Kd.N_old (rn_ HO_461002.out) hb) (by first | exact Kd.N_base ho0 | exact Kd.S_base ho0)) (Kd.R_base ho1)) (fun _ h_ => h_.1)); have HO471 := A_ (Kd.R_lower (Kd.R_new' ho1 (Kd.R_lt (rr_ HO_461004.out))) (below_size (hB_ HB.out))); replace HO_461004 := A_ (Kd.R_elder' (rr_ HO_461004.out) (Kd.R_base ho1) hb); replace BK460 := bs_ BK460 hb; replace HB := bB_ hb; (try clear hb); (try clear hk); (try clear ho0); (try clear ho1); have hz32 := cz5_ BK460; obtain ⟨Ao33, co33, eo33⟩ := Kd.N_slice HO467.out; subst eo33; obtain ⟨Ao34, co34, eo34⟩ := Kd.R_slice HO471.out; subst eo34) | ((with_reducible refine gc_ 10 rfl ?_); refine gL_ (some 38) Try.func10 #[.agg #[.int .i64 t463, .string t464, .slice Ao33 t465.length co33, .int .u8 t468, .slice Ao34 t469.length co34], .int .i64 1, .int .i64 9, .int .i64 6] ?_; (with_reducible refine (run_Complete.calls kj2 t463 t464 _ _ t465 t468 _ _ t469 1 9 6 t473 t474 t475 t478 t479 t482 t483 _ ?side1 ?side2 ?side3 ?side4 A23.out).mono ?_); (case side1 => refine (Kd.N_reads' (e := 60) (base := w.heap.size) (ok := fun k_ => (some k_ ≠ (.slice Ao34 t469.length co34 : Value).ownBlock ∧ (some k_ ≠ (.slice Ao9 t451.length co9 : Value).ownBlock ∧ (some k_ ≠ (.slice Ao10 t455.length co10 : Value).ownBlock ∧ k_ ≠ gb460)))) (n := t465.length) (c := co33) ?_).2.2; exact (rn_ (Kd.N_mono (nF5_ gb460 (Kd.N_mono HO467.out (fun k_ hk => (⟨hk, hk.2.2.2⟩ : _ ∧ k_ ≠ gb460))) (fun _ hk => hk.2)) (fun _ h_ => h_.1)))); (case side2 => exact (Kd.N_reads' HO467.out).2.1); (case side3 => refine (Kd.R_reads' (e := 35) (base := w.heap.size) (ok := fun k_ => (True ∧ some k_ ≠ (.slice Ao10 t455.length co10 : Value).ownBlock)) (n := t469.length) (c := co34) ?_).2.2; exact (rr_ (Kd.R_mono (rF5_ gb460 (Kd.R_types HO471.out BK460.out (by decide)) (fun _ hk => hk.2)) (fun _ h_ => h_.1)))); (case side4 => exact (Kd.R_reads' HO471.out).2.1); rintro e w35 ⟨v476, v480, rfl, ho0, ho1, hb⟩; refine ⟨_, rfl, ?_⟩; have HO477 := A_ (Kd.N_lower (Kd.N_mono (ok' := fun k_ => some k_ ≠ (v480 : Value).ownBlock ∧ some k_ ≠ (.slice Ao9 t451.length co9 : Value).ownBlock ∧ some k_ ≠ (.slice Ao10 t455.length co10 : Value).ownBlock ∧ some k_ ≠ (.slice Ao33 t465.length co33 : Value).ownBlock ∧ some k_ ≠ (.slice Ao34 t469.length co34 : Value).ownBlock ∧ k_ ≠ gb460) (Kd.S_N (Kd.S_bound (Kd.S_apart' ho0 (Kd.R_typed ho1) (by decide)))) (fun k_ hk_ => ⟨hk_.1.2, (Kd.fresh' (Kd.N_lt (rn_ (Kd.N_mono (nF5_ gb460 (Kd.N_mono HO_461002.out (fun k_ hk => (⟨hk, hk.1.1.2⟩ : _ ∧ k_ ≠ gb460))) (fun _ hk => hk.2)) (fun _ h_ => h_.1)))) k_ hk_.2.1), (Kd.fresh' (Kd.R_lt (rr_ (Kd.R_mono (rF5_ gb460 (Kd.R_types HO_461004.out BK460.out (by decide)) (fun _ hk => hk.2)) (fun _ h_ => h_.1)))) k_ hk_.2.1), (Kd.fresh' (Kd.N_lt (rn_ (Kd.N_mono (nF5_ gb460 (Kd.N_mono HO467.out (fun k_ hk => (⟨hk, hk.2.2.2⟩ : _ ∧ k_ ≠ gb460))) (fun _ hk => hk.2)) (fun _ h_ => h_.1)))) k_ hk_.2.1), (Kd.fresh' (Kd.R_lt (rr_ (Kd.R_mono (rF5_ gb460 (Kd.R_types HO471.out BK460.out (by decide)) (fun _ hk => hk.2)) (fun _ h_ => h_.1)))) k_ hk_.2.1), (Kd.freshB (g := gb460) (o := .cells #[.int .i64 t463, .string t464, .slice Ao33 t465.length co33, .int .u8 t468, .slice Ao34 t469.length co34] 29 (0, 0)) (bP_ BK460) k_ hk_.2.1)⟩)) (below_size (hG_ HB.out GE460.out))); replace HO_461002 := A_ (Kd.N_mono (Kd.N_told (Kd.N_told (Kd.N_old (rn_ (Kd.N_mono (nF5_ gb460 (Kd.N_mono HO_461002.out (fun k_ hk => (⟨hk, hk.1.1.2⟩ : _ ∧ k_ ≠ gb460))) (fun _ hk => hk.2)) (fun _ h_ => h_.1))) hb) (by first | exact Kd.N_base ho0 | exact Kd.S_base ho0)) (Kd.R_base ho1)) (fun _ h_ => h_.1)); replace HO467 := A_ (Kd.N_mono (Kd.N_told (Kd.N_told (Kd.N_old (rn_ (Kd.N_mono (nF5_ gb460 (Kd.N_mono HO467.out (fun k_ hk => (⟨hk, hk.2.2.2⟩ : _ ∧ k_ ≠ gb460))) (fun _ hk => hk.2)) (fun _ h_ => h_.1))) hb) (by first | exact Kd.N_base ho0 | exact Kd.S_base ho0)) (Kd.R_base ho1)) (fun _ h_ => h_.1)); have HO481 := A_ (Kd.R_lower (Kd.R_new' (Kd.R_new' ho1 (Kd.R_lt (rr_ (Kd.R_mono (rF5_ gb460 (Kd.R_types HO_461004.out BK460.out (by decide)) (fun _ hk => hk.2)) (fun _ h_ => h_.1))))) (Kd.R_lt (rr_ (Kd.R_mono (rF5_ gb460 (Kd.R_types HO471.out BK460.out (by decide)) (fun _ hk => hk.2)) (fun _ h_ => h_.1))))) (below_size (hG_ HB.out GE460.out))); replace HO_461004 := A_ (Kd.R_elder' (rr_ (Kd.R_mono (rF5_ gb460 (Kd.R_types HO_461004.out BK460.out (by decide)) (fun _ hk => hk.2)) (fun _ h_ => h_.1))) (Kd.R_base ho1) hb); replace HO471 := A_ (Kd.R_elder' (rr_ (Kd.R_mono (rF5_ gb460 (Kd.R_types HO471.out BK460.out (by decide)) (fun _ hk => hk.2)) (fun _ h_ => h_.1))) (Kd.R_base ho1) hb); replace BK460 := bp_ BK460 hb; replace HB := bB_ hb; (try clear hb); (try clear hk); (try clear ho0); (try clear ho1); (try clear hz32); have hz36 := cz5_ BK460; obtain ⟨Ao37, co37, eo37⟩ := Kd.N_slice HO477.out; subst eo37; obtain ⟨Ao38, co38, eo38⟩ := Kd.R_slice HO481.out; subst eo38) | (go_at_call 14; (with_reducible refine (millhandlaw25_states.calls kj2 t473 t474 _ _ t475 t478 _ _ t479 t484 _ ?side1 ?side2 ?side3 ?side4 A27.out).mono ?_); (case side1 => refine (Kd.N_reads' (e := 60) (base := w.heap.size) (ok := fun k_ => (some k_ ≠ (.slice Ao38 t479.length co38 : Value).ownBlock ∧ (some k_ ≠ (.slice Ao9 t451.length co9 : Value).ownBlock ∧ (some k_ ≠ (.slice Ao10 t455.length co10 : Value).ownBlock ∧ (some k_ ≠ (.slice Ao33 t465.length co33 : Value).ownBlock ∧ (some k_ ≠ (.slice Ao34 t469.length co34 : Value).ownBlock ∧ k_ ≠ gb460)))))) (n := t475.length) (c := co37) ?_).2.2; exact (rn_ (Kd.N_mono (nF5_ gb460 (Kd.N_mono HO477.out (fun k_ hk => (⟨hk, hk.2.2.2.2.2⟩ : _ ∧ k_ ≠ gb460))) (fun _ hk => hk.2)) (fun _ h_ => h_.1)))); (case side2 => exact (Kd.N_reads' HO477.out).2.1); (case side3 => refine (Kd.R_reads' (e := 35) (base := w.heap.size) (ok := fun k_ => ((True ∧ some k_ ≠ (.slice Ao10 t455.length co10 : Value).ownBlock) ∧ some k_ ≠ (.slice Ao34 t469.length co34 : Value).ownBlock)) (n := t479.length) (c := co38) ?_).2.2; exact (rr_ (Kd.R_mono (rF5_ gb460 (Kd.R_types HO481.out BK460.out (by decide)) (fun _ hk => hk.2)) (fun _ h_ => h_.1)))); (case side4 => exact (Kd.R_reads' HO481.out).2.1); rintro e w39 ⟨rfl, hb⟩; replace HO_461002 := A_ (Kd.N_below (rn_ (Kd.N_mono (nF5_ gb460 (Kd.N_mono HO_461002.out (fun k_ hk => (⟨hk, hk.1.1.1.1.2⟩ : _ ∧ k_ ≠ gb460))) (fun _ hk => hk.2)) (fun _ h_ => h_.1))) hb); replace HO_461004 := A_ (Kd.R_below (rr_ (Kd.R_mono (rF5_ gb460 (Kd.R_types HO_461004.out BK460.out (by decide)) (fun _ hk => hk.2)) (fun _ h_ => h_.1))) hb); replace HO467 := A_ (Kd.N_below (rn_ (Kd.N_mono (nF5_ gb460 (Kd.N_mono HO467.out (fun k_ hk => (⟨hk, hk.1.1.2.2.2⟩ : _ ∧ k_ ≠ gb460))) (fun _ hk => hk.2)) (fun _ h_ => h_.1))) hb); replace HO471 := A_ (Kd.R_below (rr_ (Kd.R_mono (rF5_ gb460 (Kd.R_types HO471.out BK460.out (by decide)) (fun _ hk => hk.2)) (fun _ h_ => h_.1))) hb); replace HO477 := A_ (Kd.N_below (rn_ (Kd.N_mono (nF5_ gb460 (Kd.N_mono HO477.out (fun k_ hk => (⟨hk, hk.2.2.2.2.2⟩ : _ ∧ k_ ≠ gb460))) (fun _ hk => hk.2)) (fun _ h_ => h_.1))) hb); replace HO481 := A_ (Kd.R_below (rr_ (Kd.R_mono (rF5_ gb460 (Kd.R_types HO481.out BK460.out (by decide)) (fun _ hk => hk.2)) (fun _ h_ => h_.1))) hb); replace BK460 := bp_ BK460 hb; replace HB := bB_ hb; (try clear hb); (try clear hk); (try clear hz36); have hz40 := cz5_ BK460; have p485 : 0 ≤ (2 : Int) := (by omega); have q485 : 2 < (t479.length : Int) := od_; obtain ⟨ad485, e485, hx485_0, hx485_1, hx485_2, hx485_3, hx485_4⟩ := at_T35 (Kd.R_reads' HO481.out).2.2 2 p485 q485; cases e485; (try simp only [show (2 : Int).toNat = 2 from rfl, Nat.reduceMul, Nat.reduceEqDiff, Go.Addr.add, ↓reduceIte] at hx485_0); (try simp only [show (2 : Int).toNat = 2 from rfl, Nat.reduceMul, Nat.reduceEqDiff, Go.Addr.add, ↓reduceIte] at hx485_1); (try simp only [show (2 : Int).toNat = 2 from rfl, Nat.reduceMul, Nat.reduceEqDiff, Go.Addr.add, ↓reduceIte] at hx485_2); (try simp only [show (2 : Int).toNat = 2 from rfl, Nat.reduceMul, Nat.reduceEqDiff, Go.Addr.add, ↓reduceIte] at hx485_3); (try simp only [show (2 : Int).toNat = 2 from rfl, Nat.reduceMul, Nat.reduceEqDiff, Go.Addr.add, ↓reduceIte] at hx485_4); have qi485 : (2 < t479.length) = True := eq_true (by omega); (try rw [show ((2 : Int)).toNat = 2 from rfl] at hx485_0); (try rw [show 2 * 5 = 10 from rfl] at hx485_0); (try rw [show ((2 : Int)).toNat = 2 from rfl] at hx485_1); (try rw [show 2 * 5 = 10 from rfl] at hx485_1); (try rw [show ((2 : Int)).toNat = 2 from rfl] at hx485_2); (try rw [show 2 * 5 = 10 from rfl] at hx485_2); (try rw [show ((2 : Int)).toNat = 2 from rfl] at hx485_3); (try rw [show 2 * 5 = 10 from rfl] at hx485_3); (try rw [show ((2 : Int)).toNat = 2 from rfl] at hx485_4); (try rw [show 2 * 5 = 10 from rfl] at hx485_4); replace p485 := eq_true p485; replace q485 := eq_true q485))
         go_ret
         exact ⟨re_, hb_⟩
        ·
         rw [if_neg c29] at H; exact absurd H (by simp)
       ·
        rw [if_neg c28] at H; exact absurd ((Option.some.inj H).trans hr) (by decide)
      ·
       rw [if_neg c26] at H; exact absurd ((Option.some.inj H).trans hr) (by decide)
     ·
      rw [if_neg c25] at H; exact absurd ((Option.some.inj H).trans hr) (by decide)
    ·
     rw [if_neg c24] at H; exact absurd ((Option.some.inj H).trans hr) (by decide)

/-! ### run_Fail: function 12 -/
end Go.Proofs.Ytbiphljdommacaa.R

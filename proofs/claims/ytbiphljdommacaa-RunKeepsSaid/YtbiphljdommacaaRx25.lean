/- Contracts of Go functions and what they come to, over the translation of this seat: made by a program of this session (print2.py). -/
import Derived.Test.YtbiphljdommacaaS3
import Derived.Test.YtbiphljdommacaaSh
import Derived.Test.YtbiphljdommacaaRx5
import Derived.Test.YtbiphljdommacaaRx6
import Derived.Test.YtbiphljdommacaaRx8
import Derived.Test.YtbiphljdommacaaRx24
namespace Go.Proofs.Ytbiphljdommacaa.R
open Go.RowKit Go.Proofs.Ytbiphljdommacaa.S3 Go.Proofs.Ytbiphljdommacaa.Sh Go.Proofs.Ytbiphljdommacaa.Co Go.Proofs.Ytbiphljdommacaa.Ret Go.Proofs.Ytbiphljdommacaa.Plain Go.Proofs.YtbiphljdommacaaW.PrintWords Go.Proofs.YtbiphljdommacaaW.PrintLast Go.Proofs.YtbiphljdommacaaW.PrintMore Go.Proofs.Ytbiphljdommacaa.Ti
attribute [local go_sem] max2_int min2_int max_two min_two max_three min_three max_four min_four   -- for this text's walks alone
set_option linter.unusedVariables false
set_option linter.unusedSimpArgs false

/-! ### run_Twin: function 26 -/
def run_Twin.l0 : Nat → List (S60) → Int → Int → Int → ByteArray → List (S60) → Int → List (S35) → Option (Int × ByteArray × (List (S60)) × Int × (List (S35)))
 | 0, _, _, _, _, _, _, _, _ => none
 | k + 1, x15, x16, x17, x262000, x262001, x262002, x262003, x262004 => if x17 < x16 then (if 0 ≤ x17 then (if x17 < (x15.length : Int) then ((slices_Clone_int_int.f ((rd_T60 x15 x17).f0)).bind fun t268 => (if x262002.length < 3518437208883 then (run_Twin.l0 k x15 x16 (wrap64 (x17 + 1)) x262000 x262001 (x262002 ++ [(⟨t268, (rd_T60 x15 x17).f1, (rd_T60 x15 x17).f2⟩ : S60)]) x262003 x262004) else (none))) else (none)) else (none)) else (some (x262000, x262001, x262002, x262003, x262004))
def run_Twin.f (k : Nat) (a0_0 : Int) (a0_1 : ByteArray) (l0_2 : List (S60)) (a0_3 : Int) (l0_4 : List (S35)) : Option (Int × ByteArray × (List (S60)) × Int × (List (S35))) := (slices_Clone_api_Task.f l0_4).bind fun t263 => (run_Twin.l0 k l0_2 (l0_2.length : Int) 0 a0_0 a0_1 ([] : List (S60)) a0_3 t263)
theorem run_Twin.mono_l : ∀ k, (∀ y0 y1 y2 y3 y4 y5 y6 y7, LeO (run_Twin.l0 k y0 y1 y2 y3 y4 y5 y6 y7) (run_Twin.l0 (k + 1) y0 y1 y2 y3 y4 y5 y6 y7))
 | 0 => fun _ _ _ _ _ _ _ _ r h => by simp [run_Twin.l0] at h
 | k + 1 => by
  have ih0 := run_Twin.mono_l k
  ·
   intro y0 y1 y2 y3 y4 y5 y6 y7
   unfold run_Twin.l0
   repeat' first
   | (with_reducible exact LeO.refl _)
   | (with_reducible refine LeO.ite ?_ ?_)
   | (with_reducible refine LeO.bind ?_ (fun _ => ?_))
   | exact ih0 _ _ _ _ _ _ _ _
   | exact LeO.none _
   | refine LeO.ite ?_ ?_
   | refine LeO.bind ?_ (fun _ => ?_)
theorem run_Twin.mono : ∀ a0 a1 a2 a3 a4 k, LeO (run_Twin.f k a0 a1 a2 a3 a4) (run_Twin.f (k + 1) a0 a1 a2 a3 a4) := by
 intro a0 a1 a2 a3 a4 k
 have ih0 := run_Twin.mono_l k
 unfold run_Twin.f
 repeat' first
   | (with_reducible exact LeO.refl _)
   | (with_reducible refine LeO.ite ?_ ?_)
   | (with_reducible refine LeO.bind ?_ (fun _ => ?_))
   | exact ih0 _ _ _ _ _ _ _ _
   | exact LeO.none _
   | refine LeO.ite ?_ ?_
   | refine LeO.bind ?_ (fun _ => ?_)
set_option maxHeartbeats 8000000 in
set_option maxRecDepth 100000 in
theorem run_Twin.calls (k : Nat) (a0_0 : Int) (a0_1 : ByteArray) (A0_2 : Option Addr) (c0_2 : Nat) (l0_2 : List (S60)) (a0_3 : Int) (A0_4 : Option Addr) (c0_4 : Nat) (l0_4 : List (S35)) (r1 : Int) (r2 : ByteArray) (r3 : List (S60)) (r4 : Int) (r5 : List (S35)) (w : World) (hr0_2 : Kd.C k60 w A0_2 l0_2.length l0_2) (hc0_2 : l0_2.length ≤ c0_2) (hr0_4 : Kd.C k35 w A0_4 l0_4.length l0_4) (hc0_4 : l0_4.length ≤ c0_4) (h : run_Twin.f k a0_0 a0_1 l0_2 a0_3 l0_4 = some (r1, r2, r3, r4, r5)) :
  Calls Try.prog 26 #[.agg #[.int .i64 a0_0, .string a0_1, .slice A0_2 l0_2.length c0_2, .int .u8 a0_3, .slice A0_4 l0_4.length c0_4]] w fun e w' => ∃ v2_ v4_ : Value, e = .returned (.agg #[.int .i64 r1, .string r2, v2_, .int .u8 r4, v4_]) ∧ Kd.S k60 60 w' w.heap.size (fun _ => True) v2_ r3 ∧ Kd.R k35 35 w' w.heap.size (fun _ => True) v4_ r5 ∧ Below w.heap.size w w' := by
 have hu29 := Try.underlying29; have hu60 := Try.underlying60; have HR0_2 := A_ hr0_2; have HC0_2 := A_ hc0_2; clear hr0_2 hc0_2; have HR0_4 := A_ hr0_4; have HC0_4 := A_ hc0_4; clear hr0_4 hc0_4; have HB := A_ (Below.refl w.heap.size w); have H : ((slices_Clone_api_Task.f l0_4).bind fun t263 => (run_Twin.l0 k l0_2 (l0_2.length : Int) 0 a0_0 a0_1 ([] : List (S60)) a0_3 t263)) = some (r1, r2, r3, r4, r5) := h; clear h; replace H := Option.bind_eq_some_iff.mp H; obtain ⟨t263, A20, H⟩ := H; replace H : (run_Twin.l0 k l0_2 (l0_2.length : Int) 0 a0_0 a0_1 ([] : List (S60)) a0_3 t263) = some (r1, r2, r3, r4, r5) := H; have A2 := Aside0.mk A20; clear A20; have H' := Aside0.mk H; clear H
 go_enter Try.func26, Try.ntmps26
 go_wp2_with (first | ((with_reducible refine gd_ 1 rfl ?_); refine by0_ 1 #[.int .i64 a0_0, .string a0_1, .slice A0_2 l0_2.length c0_2, .int .u8 a0_3, .slice A0_4 l0_4.length c0_4] 29 ?_; clear HB; intro gb261 w3 BK261 GE261 HB; have GW261 := GE261) | ((with_reducible refine gd_ 2 rfl ?_); refine by1_ 2 #[.int .i64 0, .string (⟨#[]⟩ : ByteArray), .slice none 0 0, .int .u8 0, .slice none 0 0] 29 BK261 ?_; clear HB BK261; intro gb262 w4 BK262 GE262 HB NB261_262 NB262_261 BK261; have hz6 := cz5_ BK261) | ((with_reducible refine gc_ 49 rfl ?_); refine gL_ (some 11) Try.func49 #[.slice A0_4 l0_4.length c0_4] ?_; (with_reducible refine (slices_Clone_api_Task.calls _ _ l0_4 t263 _ ?side1 ?side2 A2.out).mono ?_); (case side1 => exact cB_ HR0_4); (case side2 => exact HC0_4.out); rintro e w7 ⟨v264, rfl, ho0, hb⟩; refine ⟨_, rfl, ?_⟩; have HO265 := A_ (Kd.R_lower ho0 (below_size (hB_ HB.out))); replace BK261 := bs_ BK261 hb; replace BK262 := bs_ BK262 hb; replace HB := bB_ hb; (try clear hb); (try clear hk); (try clear ho0); have hz8 := cz5_ BK261; obtain ⟨Ao9, co9, eo9⟩ := Kd.R_slice HO265.out; subst eo9))
 go_loopg [17] k (fun kq v17 w' => ∃ (x17_1 : Int) (x262002_1 : List (S60)) (u262002 : Value), v17 = .int .i64 x17_1 ∧ Aside0 (run_Twin.l0 kq l0_2 (l0_2.length : Int) x17_1 a0_0 a0_1 x262002_1 a0_3 t263 = some (r1, r2, r3, r4, r5)) ∧ Aside0 (kq ≤ k) ∧ Aside0 (Kd.S k60 60 w' w.heap.size (fun _ => True) u262002 x262002_1) ∧ Aside0 (Kd.R k35 35 w' w.heap.size (fun _ => True) (.slice Ao9 t263.length co9) t263) ∧ Aside0 (w'.heap[gb261]? = some (.cells #[.int .i64 a0_0, .string a0_1, u262002, .int .u8 a0_3, (.slice Ao9 t263.length co9)] 29 (0, 0))) ∧ Aside0 (w'.heap[gb262]? = some (.cells #[.int .i64 0, .string (⟨#[]⟩ : ByteArray), (.slice none 0 0), .int .u8 0, (.slice none 0 0)] 29 (0, 0))) ∧ Aside0 (Below w.heap.size w w'))
 case atStart => exact ⟨(0), (([] : List (S60))), (.slice none 0 0), rl_, H', ⟨Nat.le_refl _⟩, ⟨nl_⟩, ⟨rr_ (Kd.R_mono (Kd.R_far (p := ⟨gb261, 4, none⟩) (Kd.R_far (p := ⟨gb261, 2, none⟩) (Kd.R_types HO265.out BK261.out (by decide)) (fun _ hk => hk.2) (.slice none 0 0)) (fun _ hk => hk.2) (.slice Ao9 t263.length co9)) (fun _ hk => trivial))⟩, ⟨bP_ BK261⟩, ⟨bZ_ BK262⟩, ⟨hb_⟩⟩
 case round =>
  clear H'; (try clear hz6); (try clear hz8); (try clear BK261); (try clear BK262); obtain ⟨x17_1, x262002_1, u262002, rfl, HA, HK1, HO_262002, HO_262004, BK261, BK262, HB⟩ := hrel
  cases gk with
  | zero => exact absurd HA.out (by simp [run_Twin.l0])
  | succ k1 =>
   have H := HA.out; clear HA; simp only [run_Twin.l0] at H
   by_cases c10 : x17_1 < (l0_2.length : Int)
   ·
    rw [if_pos c10] at H; have c10b0 : decide (x17_1 < (l0_2.length : Int)) = true := decide_eq_true c10; clear c10
    by_cases c11 : 0 ≤ x17_1
    ·
     rw [if_pos c11] at H; have c11b0 : decide (0 ≤ x17_1) = true := decide_eq_true c11; clear c11
     by_cases c12 : x17_1 < (l0_2.length : Int)
     ·
      rw [if_pos c12] at H; have c12b0 : decide (x17_1 < (l0_2.length : Int)) = true := decide_eq_true c12; clear c12; replace H := Option.bind_eq_some_iff.mp H; obtain ⟨t268, A130, H⟩ := H
      try dsimp only at H
      have A13 := Aside0.mk A130; clear A130
      by_cases c14 : x262002_1.length < 3518437208883
      ·
       rw [if_pos c14] at H; have LMc14 := Aside0.mk c14; clear c14; obtain ⟨y271, hy271⟩ : ∃ y_ : List (S60), y_ = (x262002_1 ++ [(⟨t268, (rd_T60 l0_2 x17_1).f1, (rd_T60 l0_2 x17_1).f2⟩ : S60)]) := ⟨_, rfl⟩; replace H : (run_Twin.l0 k1 l0_2 (l0_2.length : Int) (wrap64 (x17_1 + 1)) a0_0 a0_1 y271 a0_3 t263) = some (r1, r2, r3, r4, r5) := by first | (rw [hy271]; with_reducible exact H) | (have H2_ := (Option.bind_some _ _).symm.trans H; rw [hy271]; with_reducible exact H2_) | (have H2_ := (Option.bind_some _ _).symm.trans H; with_reducible exact H2_) | with_reducible exact H | (rw [hy271]; exact H) | exact H
       have Ny271 := A_ hy271; clear hy271; have H' := Aside0.mk H; clear H; have p266 : 0 ≤ (x17_1 : Int) := od_; have q266 : x17_1 < (l0_2.length : Int) := od_; obtain ⟨ad266, A266_0, c266_0, e266, hx266_0, hx266_1, hx266_2, hl266_0, hi266_0⟩ := at_T60 HR0_2.out x17_1 p266 q266
       cases e266
       replace hx266_0 := cl_ HB.out hx266_0; replace hx266_1 := cl_ HB.out hx266_1; replace hx266_2 := cl_ HB.out hx266_2; have HR266_0 := A_ hi266_0; have HC266_0 := A_ hl266_0; clear hi266_0 hl266_0; replace p266 := eq_true p266; replace q266 := eq_true q266
       go_wp2_with (first | ((with_reducible refine gd_ 5 rfl ?_); refine bx_ 5 #[.slice none 0 0, .int .i64 0, .int .i64 0] 60 ?_; intro gb267 hg w15 hbox hb; replace HO_262002 := A_ (Kd.S_below (Kd.S_elderB (rs_ HO_262002.out) gb267 (Nat.le_of_eq hg.symm)) hb); replace HO_262004 := A_ (Kd.R_below (rr_ HO_262004.out) hb); have BK267 := A_ (hbox); have GW267 := bz_ (hB_ HB.out) hg; have GE267 := bz_ (hB_ HB.out) hg; replace HB := bB_ hb; have NB261_267 := bn_ BK261 hg; have NB267_261 := bm_ BK261 hg; replace BK261 := bs_ BK261 hb; have NB262_267 := A_ ((by rw [hg]; exact Nat.ne_of_lt (blk_lt (g := gb262) (o := .cells #[.int .i64 0, .string (⟨#[]⟩ : ByteArray), .slice none 0 0, .int .u8 0, .slice none 0 0] 29 (0, 0)) (bY_ BK262)) : gb262 ≠ gb267)); have NB267_262 := A_ ((by rw [hg]; exact Nat.ne_of_gt (blk_lt (g := gb262) (o := .cells #[.int .i64 0, .string (⟨#[]⟩ : ByteArray), .slice none 0 0, .int .u8 0, .slice none 0 0] 29 (0, 0)) (bY_ BK262)) : gb267 ≠ gb262)); replace BK262 := bs_ BK262 hb; clear hb hbox hg; have hz18 := cz3_ BK267) | ((with_reducible refine gc_ 50 rfl ?_); refine gL_ (some 23) Try.func50 #[.slice A266_0 ((rd_T60 l0_2 x17_1).f0).length c266_0] ?_; (with_reducible refine (slices_Clone_int_int.calls _ _ ((rd_T60 l0_2 x17_1).f0) t268 _ ?side1 ?side2 A13.out).mono ?_); (case side1 => exact Kd.C_below HR266_0.out hb_); (case side2 => exact HC266_0.out); rintro e w19 ⟨v269, rfl, ho0, hb⟩; refine ⟨_, rfl, ?_⟩; replace HO_262002 := A_ (Kd.S_elder' (rs_ (Kd.S_mono (sF3_ gb267 (Kd.S_mono HO_262002.out (fun k_ hk => (⟨hk, hk.2⟩ : _ ∧ k_ ≠ gb267))) (fun _ hk => hk.2)) (fun _ h_ => h_.1))) (Kd.R_base ho0) hb); replace HO_262004 := A_ (Kd.R_below (rr_ (Kd.R_mono (rF3_ gb267 (Kd.R_types HO_262004.out BK267.out (by decide)) (fun _ hk => hk.2)) (fun _ h_ => h_.1))) hb); have HO270 := A_ (Kd.R_lower ho0 (below_size (hG_ HB.out GE267.out))); replace BK261 := bF_ BK261 NB261_267.out hb; replace BK262 := bw_ BK262 hb; replace BK267 := bp_ BK267 hb; replace HB := bB_ hb; (try clear hb); (try clear hk); (try clear ho0); obtain ⟨Ao20, co20, eo20⟩ := Kd.R_slice HO270.out; subst eo20; (try clear hz18); have hz21 := cz3_ BK267) | ((with_reducible refine gate_store (t := 33) (p := 24) rfl ?_); refine sx_ 33 24 ((w19.setCell ⟨gb267, 0, none⟩ (.slice Ao20 t268.length co20))) ?_; intro w22 hw; have n0_ : Aside0 (Kd.S k60 60 w22 w.heap.size (fun k_ => some k_ ≠ (.slice Ao20 t268.length co20 : Value).ownBlock ∧ k_ ≠ gb267) u262002 x262002_1) := ⟨(by rw [hw]; exact (rs_ (Kd.S_mono (Kd.S_far (p := ⟨gb267, 0, none⟩) (Kd.S_mono HO_262002.out (fun k_ hk => (⟨hk, hk.1.2⟩ : _ ∧ k_ ≠ gb267))) (fun _ hk => hk.2) (.slice Ao20 t268.length co20)) (fun _ hk => ⟨hk.1.2, hk.1.1.2⟩))))⟩; have n1_ : Aside0 (Kd.R k35 35 w22 w.heap.size (fun _ => True) (.slice Ao9 t263.length co9) t263) := ⟨(by rw [hw]; exact (rr_ (Kd.R_mono (Kd.R_far (p := ⟨gb267, 0, none⟩) (Kd.R_types HO_262004.out BK267.out (by decide)) (fun _ hk => hk.2) (.slice Ao20 t268.length co20)) (fun _ hk => trivial))))⟩; have n2_ : Aside0 (Kd.R (Kd.int .i64) 3 w22 w.heap.size (fun _ => True) (.slice Ao20 t268.length co20) t268) := ⟨(by rw [hw]; exact (rr_ (Kd.R_mono (Kd.R_far (p := ⟨gb267, 0, none⟩) (Kd.R_types HO270.out BK267.out (by decide)) (fun _ hk => hk.2) (.slice Ao20 t268.length co20)) (fun _ hk => trivial))))⟩; have n3_ : Aside0 (w22.heap[gb261]? = some (.cells #[.int .i64 a0_0, .string a0_1, u262002, .int .u8 a0_3, .slice Ao9 t263.length co9] 29 (0, 0))) := ⟨(by rw [hw]; exact (bZ_ BK261))⟩; have n4_ : Aside0 (w22.heap[gb262]? = some (.cells #[.int .i64 0, .string (⟨#[]⟩ : ByteArray), .slice none 0 0, .int .u8 0, .slice none 0 0] 29 (0, 0))) := ⟨(by rw [hw]; exact (bZ_ BK262))⟩; have n5_ : Aside0 (w22.heap[gb267]? = some (.cells #[.slice Ao20 t268.length co20, .int .i64 ((rd_T60 l0_2 x17_1).f1), .int .i64 ((rd_T60 l0_2 x17_1).f2)] 60 (0, 0))) := ⟨(by rw [hw]; exact (bP_ BK267))⟩; have n6_ : Aside0 (Below w.heap.size w w22) := ⟨(by rw [hw]; exact hb_)⟩; clear hw; clear HO_262002; clear HO_262004; clear HO270; clear BK261; clear BK262; clear BK267; clear HB; have HO_262002 := n0_; have HO_262004 := n1_; have HO270 := n2_; have BK261 := n3_; have BK262 := n4_; have BK267 := n5_; have HB := n6_; clear n0_ n1_ n2_ n3_ n4_ n5_ n6_; (try clear hz21); have hz24 := cz5_ BK261; have hz25 := cz3_ BK267) | ((with_reducible refine gate_builtin (b := .append) (xs := #[.tmp 27, .tmp 29]) rfl ?_); at_builtin; refine Kd.S_append k60 (w0 := w) w.heap.size rfl (.tmp 27) (.tmp 29) 22 60 (.agg #[(.slice none 0 0), (.int .i64 0), (.int .i64 0)]) 40 rfl Try.underlying22 info60 rfl (by decide) (by omega) u262002 x262002_1 (⟨t268, (rd_T60 l0_2 x17_1).f1, (rd_T60 l0_2 x17_1).f2⟩ : S60) [.slice Ao20 t268.length co20, .int .i64 ((rd_T60 l0_2 x17_1).f1), .int .i64 ((rd_T60 l0_2 x17_1).f2)] (fun k_ => k_ ≠ gb267) (fun k_ => some k_ = (.slice Ao20 t268.length co20 : Value).ownBlock) rfl rfl ?aP (fun k_ hk_ => ((Kd.R_mono (ok' := fun k_ => ((fun k_ => k_ ≠ gb267)) k_ ∧ some k_ ≠ (u262002 : Value).ownBlock) (Kd.R_types (Kd.R_apart' (HO270.out) (Kd.S_typed HO_262002.out) (by decide)) BK267.out (by decide)) (fun k_ hk => ⟨hk.2, hk.1.2⟩))).1 k_ hk_.symm) ?aF ?aO ?aB ?aS ?aL ?_; (case aP => exact k60_mkM _ _ _ (⟨t268, (rd_T60 l0_2 x17_1).f1, (rd_T60 l0_2 x17_1).f2⟩ : S60) (Kd.R_mono (Kd.R_tight rfl (Kd.R_mono (ok' := fun k_ => ((fun k_ => k_ ≠ gb267)) k_ ∧ some k_ ≠ (u262002 : Value).ownBlock) (Kd.R_types (Kd.R_apart' (HO270.out) (Kd.S_typed HO_262002.out) (by decide)) BK267.out (by decide)) (fun k_ hk => ⟨hk.2, hk.1.2⟩))) (fun _ h_ => h_))); (case aB => exact hb_); (case aF => exact (fun k_ hk => Kd.freshB (g := gb267) (o := .cells #[.slice Ao20 t268.length co20, .int .i64 ((rd_T60 l0_2 x17_1).f1), .int .i64 ((rd_T60 l0_2 x17_1).f2)] 60 (0, 0)) (bY_ BK267) k_ hk)); (case aO => exact (rs_ (Kd.S_mono HO_262002.out (fun k_ hk => ⟨hk.2, fun e_ => hk.1 e_⟩)))); (case aS => exact (below_size hb_)); (case aL => have := LMc14.out; omega); intro v272 w26 ho hb hg hat; rw [← Ny271.out] at ho; replace HO_262004 := A_ (Kd.R_over' (rr_ HO_262004.out) (Kd.S_typed (rs_ HO_262002.out)) (by decide) hg); replace BK261 := A_ (blk_grown (g := gb261) (o := .cells #[.int .i64 a0_0, .string a0_1, u262002, .int .u8 a0_3, .slice Ao9 t263.length co9] 29 (0, 0)) (bY_ BK261) hg (Kd.S_ne HO_262002.out BK261.out (by decide))); replace BK262 := A_ (blk_grown (g := gb262) (o := .cells #[.int .i64 0, .string (⟨#[]⟩ : ByteArray), .slice none 0 0, .int .u8 0, .slice none 0 0] 29 (0, 0)) (bY_ BK262) hg (Kd.S_ne HO_262002.out BK262.out (by decide))); replace BK267 := A_ (blk_grown (g := gb267) (o := .cells #[.slice Ao20 t268.length co20, .int .i64 ((rd_T60 l0_2 x17_1).f1), .int .i64 ((rd_T60 l0_2 x17_1).f2)] 60 (0, 0)) (bY_ BK267) hg (Kd.S_away HO_262002.out (fun _ hk => hk.2))); replace HB := A_ (hb); have HO273 := A_ (ho); clear ho hb hg hat; obtain ⟨Ao27, co27, eo27⟩ := Kd.S_slice HO273.out; subst eo27; (try clear hz24 hz25); have hz28 := cz5_ BK261))
       go_roundg k1
       case measure => have := HK1.out; omega
       case rel => exact ⟨(wrap64 (x17_1 + 1)), (y271), (.slice Ao27 y271.length co27), rl_, H', ⟨by have := HK1.out; omega⟩, ⟨rs_ (Kd.S_mono (Kd.S_far (p := ⟨gb261, 2, none⟩) (Kd.S_types HO273.out BK261.out (by decide)) (fun _ hk => hk.2) (.slice Ao27 y271.length co27)) (fun _ hk => trivial))⟩, ⟨rr_ (Kd.R_mono (Kd.R_far (p := ⟨gb261, 2, none⟩) (Kd.R_types HO_262004.out BK261.out (by decide)) (fun _ hk => hk.2) (.slice Ao27 y271.length co27)) (fun _ hk => trivial))⟩, ⟨bP_ BK261⟩, ⟨bZ_ BK262⟩, ⟨hb_⟩⟩
      ·
       rw [if_neg c14] at H; exact absurd H (by simp)
     ·
      rw [if_neg c12] at H; exact absurd H (by simp)
    ·
     rw [if_neg c11] at H; exact absurd H (by simp)
   ·
    rw [if_neg c10] at H; have c10b0 : decide (x17_1 < (l0_2.length : Int)) = false := decide_eq_false c10; clear c10; simp only [Option.some.injEq, Prod.mk.injEq] at H; obtain ⟨rfl, rfl, rfl, rfl, rfl⟩ := H; have hnb29 := NB261_262.out; have hnc29 := NB262_261.out; have hz30 := cz5_ BK261; have hz31 := cz5_ BK262; obtain ⟨Ao32, co32, eo32⟩ := Kd.S_slice HO_262002.out; subst eo32
    go_wp2
    refine bodyPost_ret (results_cell_row rfl _ _ gb262 29 #[.int .i64 a0_0, .string a0_1, .slice Ao32 x262002_1.length co32, .int .u8 a0_3, .slice Ao9 t263.length co9] (0, 0) _ rfl (bP_ BK262) Try.underlying29 rfl (by kernel_rfl)) rfl ?_
    exact ⟨_, _, re_, rs_ (Kd.S_mono (sF5_ gb262 (Kd.S_types HO_262002.out BK262.out (by decide)) (fun _ hk => hk.2)) (fun _ hk => trivial)), rr_ (Kd.R_mono (rF5_ gb262 (Kd.R_types HO_262004.out BK262.out (by decide)) (fun _ hk => hk.2)) (fun _ hk => trivial)), hb_⟩

/-! ### slices_IndexFunc_int_int: function 72 -/
def slices_IndexFunc_int_int.l0 : Nat → List Int → List (S35) → Int → Int → Option (Int)
 | 0, _, _, _, _ => none
 | k + 1, x0, x1, x7, x8 => if x8 < x7 then (if 0 ≤ x8 then (if x8 < (x0.length : Int) then ((run_met_1.f (rd x0 x8) x1).bind fun t275 => (if t275 = true then (some x8) else (slices_IndexFunc_int_int.l0 k x0 x1 x7 (wrap64 (x8 + 1))))) else (none)) else (none)) else (some (-1))
def slices_IndexFunc_int_int.f (k : Nat) (l0 : List Int) (l1 : List (S35)) : Option (Int) := slices_IndexFunc_int_int.l0 k l0 l1 (l0.length : Int) 0
theorem slices_IndexFunc_int_int.mono_l : ∀ k, (∀ y0 y1 y2 y3, LeO (slices_IndexFunc_int_int.l0 k y0 y1 y2 y3) (slices_IndexFunc_int_int.l0 (k + 1) y0 y1 y2 y3))
 | 0 => fun _ _ _ _ r h => by simp [slices_IndexFunc_int_int.l0] at h
 | k + 1 => by
  have ih0 := slices_IndexFunc_int_int.mono_l k
  ·
   intro y0 y1 y2 y3; unfold slices_IndexFunc_int_int.l0
   repeat' first
   | (with_reducible exact LeO.refl _)
   | (with_reducible refine LeO.ite ?_ ?_)
   | (with_reducible refine LeO.bind ?_ (fun _ => ?_))
   | exact ih0 _ _ _ _
   | exact LeO.none _
   | refine LeO.ite ?_ ?_
   | refine LeO.bind ?_ (fun _ => ?_)
theorem slices_IndexFunc_int_int.mono : ∀ a0 a1 k, LeO (slices_IndexFunc_int_int.f k a0 a1) (slices_IndexFunc_int_int.f (k + 1) a0 a1) := by
 intro a0 a1 k; have ih0 := slices_IndexFunc_int_int.mono_l k; unfold slices_IndexFunc_int_int.f
 repeat' first
   | (with_reducible exact LeO.refl _)
   | (with_reducible refine LeO.ite ?_ ?_)
   | (with_reducible refine LeO.bind ?_ (fun _ => ?_))
   | exact ih0 _ _ _ _
   | exact LeO.none _
   | refine LeO.ite ?_ ?_
   | refine LeO.bind ?_ (fun _ => ?_)
set_option maxHeartbeats 8000000 in
set_option maxRecDepth 100000 in
theorem slices_IndexFunc_int_int.calls (k : Nat) (A0 : Option Addr) (c0 : Nat) (l0 : List Int) (A1 : Option Addr) (c1 : Nat) (l1 : List (S35)) (r : Int) (w : World) (hr0 : Kd.C (Kd.int .i64) w A0 l0.length l0) (hc0 : l0.length ≤ c0) (hr1 : Kd.C k35 w A1 l1.length l1) (hc1 : l1.length ≤ c1) (g : Nat) (vx0 vx1 vx2 vx3 : Value) (hbx : w.heap[g]? = some (.cells #[vx0, vx1, vx2, vx3, .slice A1 l1.length c1] 29 (0, 0))) (h : slices_IndexFunc_int_int.f k l0 l1 = some r) :
  Calls Try.prog 72 #[.slice A0 l0.length c0, .func (.func 65) #[] #[.pointer (some ⟨g, 0, none⟩)]] w fun e w' => e = .returned (.int .i64 r) ∧ Drawn0 w w' := by
 have HBX := A_ hbx; clear hbx; have HR0 := A_ hr0; have HC0 := A_ hc0; clear hr0 hc0; have HR1 := A_ hr1; have HC1 := A_ hc1; clear hr1 hc1; have H : (slices_IndexFunc_int_int.l0 k l0 l1 (l0.length : Int) 0) = some r := h; clear h; have H' := Aside0.mk H; clear H
 go_enter Try.func72, Try.ntmps72
 go_wp2
 go_loopg [8] k (fun kq v8 w' => ∃ (x8_1 : Int), v8 = .int .i64 x8_1 ∧ Aside0 (slices_IndexFunc_int_int.l0 kq l0 l1 (l0.length : Int) x8_1 = some r) ∧ Aside0 (kq ≤ k) ∧ Drawn0 w w')
 case atStart => exact ⟨(0), rl_, H', ⟨Nat.le_refl _⟩, by repeat (first | exact Drawn0.refl _ | apply Drawn0.step)⟩
 case round =>
  clear H'; (try clear c1); obtain ⟨x8_1, rfl, HA, HK1, ⟨m1, rfl⟩⟩ := hrel
  cases gk with
  | zero => exact absurd HA.out (by simp [slices_IndexFunc_int_int.l0])
  | succ k1 =>
   have H := HA.out; clear HA; simp only [slices_IndexFunc_int_int.l0] at H
   by_cases c3 : x8_1 < (l0.length : Int)
   ·
    rw [if_pos c3] at H; have c3b0 : decide (x8_1 < (l0.length : Int)) = true := decide_eq_true c3; clear c3
    by_cases c4 : 0 ≤ x8_1
    ·
     rw [if_pos c4] at H; have c4b0 : decide (0 ≤ x8_1) = true := decide_eq_true c4; clear c4
     by_cases c5 : x8_1 < (l0.length : Int)
     ·
      rw [if_pos c5] at H; have c5b0 : decide (x8_1 < (l0.length : Int)) = true := decide_eq_true c5; clear c5; replace H := Option.bind_eq_some_iff.mp H; obtain ⟨t275, A60, H⟩ := H; replace H : (if t275 = true then (some x8_1) else (slices_IndexFunc_int_int.l0 k1 l0 l1 (l0.length : Int) (wrap64 (x8_1 + 1)))) = some r := H; have A6 := Aside0.mk A60; clear A60
      by_cases c7 : t275 = true
      ·
       subst c7; have H1 : (some x8_1) = some r := by rw [if_pos rfl] at H; exact H
       clear H; have H := H1; clear H1; obtain rfl := Option.some.inj H; have p274 : 0 ≤ (x8_1 : Int) := od_; have q274 : x8_1 < (l0.length : Int) := od_; obtain ⟨ad274, e274, hx274_0⟩ := Kd.at_int HR0.out x8_1 p274 q274
       cases e274
       replace p274 := eq_true p274; replace q274 := eq_true q274
       go_wp2_with fail
       refine (run_met_1.calls (rd l0 x8_1) A1 c1 l1 true _ ?side1 ?side2 g vx0 vx1 vx2 vx3 ?sideb A6.out).mono ?_
       case side1 => exact cX_ HR1.out
       case side2 => exact HC1.out
       case sideb => (with_reducible repeat (first | refine blk_drewN ?_ _ | refine blk_drew ?_ | refine blk_alloc ?_ _)); exact HBX.out
       rintro e w' ⟨rfl, ⟨nd, rfl⟩⟩
       go_wp2
       go_ret
       exact ⟨rl_, by repeat (first | exact Drawn0.refl _ | apply Drawn0.step)⟩
      ·
       replace c7 := Bool.eq_false_iff.mpr c7; subst c7; have H1 : (slices_IndexFunc_int_int.l0 k1 l0 l1 (l0.length : Int) (wrap64 (x8_1 + 1))) = some r := by rw [if_neg (show ¬ (false = true) by decide)] at H; exact H
       clear H; have H := H1; clear H1; have H' := Aside0.mk H; clear H; have p274 : 0 ≤ (x8_1 : Int) := od_; have q274 : x8_1 < (l0.length : Int) := od_; obtain ⟨ad274, e274, hx274_0⟩ := Kd.at_int HR0.out x8_1 p274 q274
       cases e274
       replace p274 := eq_true p274; replace q274 := eq_true q274
       go_wp2_with fail
       refine (run_met_1.calls (rd l0 x8_1) A1 c1 l1 false _ ?side1 ?side2 g vx0 vx1 vx2 vx3 ?sideb A6.out).mono ?_
       case side1 => exact cX_ HR1.out
       case side2 => exact HC1.out
       case sideb => (with_reducible repeat (first | refine blk_drewN ?_ _ | refine blk_drew ?_ | refine blk_alloc ?_ _)); exact HBX.out
       rintro e w' ⟨rfl, ⟨nd, rfl⟩⟩
       go_wp2
       go_roundg k1
       case measure => have := HK1.out; omega
       case rel => exact ⟨(wrap64 (x8_1 + 1)), rl_, H', ⟨by have := HK1.out; omega⟩, by repeat (first | exact Drawn0.refl _ | apply Drawn0.step)⟩
     ·
      rw [if_neg c5] at H; exact absurd H (by simp)
    ·
     rw [if_neg c4] at H; exact absurd H (by simp)
   ·
    rw [if_neg c3] at H; have c3b0 : decide (x8_1 < (l0.length : Int)) = false := decide_eq_false c3; clear c3; obtain rfl := Option.some.inj H
    go_wp2
    go_ret
    exact ⟨rl_, by repeat (first | exact Drawn0.refl _ | apply Drawn0.step)⟩

/-! ### slices_ContainsFunc_int_int: function 64 -/
def slices_ContainsFunc_int_int.f (k : Nat) (l0 : List Int) (l1 : List (S35)) : Option (Bool) := (slices_IndexFunc_int_int.f k l0 l1).bind fun t276 => (some (decide (t276 ≥ 0)))
theorem slices_ContainsFunc_int_int.mono : ∀ a0 a1 k, LeO (slices_ContainsFunc_int_int.f k a0 a1) (slices_ContainsFunc_int_int.f (k + 1) a0 a1) := by
 intro a0 a1 k; unfold slices_ContainsFunc_int_int.f
 repeat' first
   | (with_reducible exact LeO.refl _)
   | (with_reducible refine LeO.ite ?_ ?_)
   | (with_reducible refine LeO.bind ?_ (fun _ => ?_))
   | exact slices_IndexFunc_int_int.mono _ _ _
   | exact LeO.none _
   | refine LeO.ite ?_ ?_
   | refine LeO.bind ?_ (fun _ => ?_)
set_option maxHeartbeats 8000000 in
set_option maxRecDepth 100000 in
theorem slices_ContainsFunc_int_int.calls (k : Nat) (A0 : Option Addr) (c0 : Nat) (l0 : List Int) (A1 : Option Addr) (c1 : Nat) (l1 : List (S35)) (r : Bool) (w : World) (hr0 : Kd.C (Kd.int .i64) w A0 l0.length l0) (hc0 : l0.length ≤ c0) (hr1 : Kd.C k35 w A1 l1.length l1) (hc1 : l1.length ≤ c1) (g : Nat) (vx0 vx1 vx2 vx3 : Value) (hbx : w.heap[g]? = some (.cells #[vx0, vx1, vx2, vx3, .slice A1 l1.length c1] 29 (0, 0))) (h : slices_ContainsFunc_int_int.f k l0 l1 = some r) :
  Calls Try.prog 64 #[.slice A0 l0.length c0, .func (.func 65) #[] #[.pointer (some ⟨g, 0, none⟩)]] w fun e w' => e = .returned (.bool r) ∧ Drawn0 w w' := by
 have HBX := A_ hbx; clear hbx; have HR0 := A_ hr0; have HC0 := A_ hc0; clear hr0 hc0; have HR1 := A_ hr1; have HC1 := A_ hc1; clear hr1 hc1; have H : ((slices_IndexFunc_int_int.f k l0 l1).bind fun t276 => (some (decide (t276 ≥ 0)))) = some r := h; clear h; replace H := Option.bind_eq_some_iff.mp H; obtain ⟨t276, A30, H⟩ := H; replace H : (some (decide (t276 ≥ 0))) = some r := H; have A3 := Aside0.mk A30; clear A30; obtain rfl := Option.some.inj H
 go_enter Try.func64, Try.ntmps64
 go_wp2_with (first | ((with_reducible refine gc_ 72 rfl ?_); refine gL_ (some 7) Try.func72 #[.slice A0 l0.length c0, .func (.func 65) #[] #[.pointer (some ⟨g, 0, none⟩)]] ?_; (with_reducible refine (slices_IndexFunc_int_int.calls k _ _ l0 A1 c1 l1 t276 _ ?side1 ?side2 ?side3 ?side4 g vx0 vx1 vx2 vx3 ?sideb A3.out).mono ?_); (case side1 => exact cX_ HR0.out); (case side2 => exact HC0.out); (case side3 => exact cX_ HR1.out); (case side4 => exact HC1.out); (case sideb => ((with_reducible repeat (first | refine blk_drewN ?_ _ | refine blk_drew ?_ | refine blk_alloc ?_ _)); exact HBX.out)); rintro e w' ⟨rfl, ⟨nd, rfl⟩⟩; refine ⟨_, rfl, ?_⟩))
 go_ret
 exact ⟨rl_, by repeat (first | exact Drawn0.refl _ | apply Drawn0.step)⟩

/-! ### run_met: function 51 -/
def run_met.f (k : Nat) (a0_0 : Int) (a0_1 : ByteArray) (l0_2 : List (S60)) (a0_3 : Int) (l0_4 : List (S35)) (l1_0 : List Int) (a1_1 : Int) (a1_2 : Int) : Option (Bool) := (slices_ContainsFunc_int_int.f k l1_0 l0_4).bind fun t279 => (some (!t279))
theorem run_met.mono : ∀ a0 a1 a2 a3 a4 a5 a6 a7 k, LeO (run_met.f k a0 a1 a2 a3 a4 a5 a6 a7) (run_met.f (k + 1) a0 a1 a2 a3 a4 a5 a6 a7) := by
 intro a0 a1 a2 a3 a4 a5 a6 a7 k; unfold run_met.f
 repeat' first
   | (with_reducible exact LeO.refl _)
   | (with_reducible refine LeO.ite ?_ ?_)
   | (with_reducible refine LeO.bind ?_ (fun _ => ?_))
   | exact slices_ContainsFunc_int_int.mono _ _ _
   | exact LeO.none _
   | refine LeO.ite ?_ ?_
   | refine LeO.bind ?_ (fun _ => ?_)
set_option maxHeartbeats 8000000 in
set_option maxRecDepth 100000 in
theorem run_met.calls (k : Nat) (a0_0 : Int) (a0_1 : ByteArray) (A0_2 : Option Addr) (c0_2 : Nat) (l0_2 : List (S60)) (a0_3 : Int) (A0_4 : Option Addr) (c0_4 : Nat) (l0_4 : List (S35)) (A1_0 : Option Addr) (c1_0 : Nat) (l1_0 : List Int) (a1_1 : Int) (a1_2 : Int) (r : Bool) (w : World) (hr0_2 : Kd.C k60 w A0_2 l0_2.length l0_2) (hc0_2 : l0_2.length ≤ c0_2) (hr0_4 : Kd.C k35 w A0_4 l0_4.length l0_4) (hc0_4 : l0_4.length ≤ c0_4) (hr1_0 : Kd.C (Kd.int .i64) w A1_0 l1_0.length l1_0) (hc1_0 : l1_0.length ≤ c1_0) (h : run_met.f k a0_0 a0_1 l0_2 a0_3 l0_4 l1_0 a1_1 a1_2 = some r) :
  Calls Try.prog 51 #[.agg #[.int .i64 a0_0, .string a0_1, .slice A0_2 l0_2.length c0_2, .int .u8 a0_3, .slice A0_4 l0_4.length c0_4], .agg #[.slice A1_0 l1_0.length c1_0, .int .i64 a1_1, .int .i64 a1_2]] w fun e w' => e = .returned (.bool r) ∧ Below w.heap.size w w' := by
 have hu29 := Try.underlying29; have hu60 := Try.underlying60; have HR0_2 := A_ hr0_2; have HC0_2 := A_ hc0_2; clear hr0_2 hc0_2; have HR0_4 := A_ hr0_4; have HC0_4 := A_ hc0_4; clear hr0_4 hc0_4; have HR1_0 := A_ hr1_0; have HC1_0 := A_ hc1_0; clear hr1_0 hc1_0; have HB := A_ (Below.refl w.heap.size w); have H : ((slices_ContainsFunc_int_int.f k l1_0 l0_4).bind fun t279 => (some (!t279))) = some r := h; clear h; replace H := Option.bind_eq_some_iff.mp H; obtain ⟨t279, A30, H⟩ := H; replace H : (some (!t279)) = some r := H; have A3 := Aside0.mk A30; clear A30; obtain rfl := Option.some.inj H
 go_enter Try.func51, Try.ntmps51
 go_wp2_with (first | ((with_reducible refine gd_ 2 rfl ?_); refine by0_ 2 #[.int .i64 a0_0, .string a0_1, .slice A0_2 l0_2.length c0_2, .int .u8 a0_3, .slice A0_4 l0_4.length c0_4] 29 ?_; clear HB; intro gb277 w4 BK277 GE277 HB; have GW277 := GE277) | ((with_reducible refine gd_ 3 rfl ?_); refine by1_ 3 #[.slice A1_0 l1_0.length c1_0, .int .i64 a1_1, .int .i64 a1_2] 60 BK277 ?_; clear HB BK277; intro gb278 w5 BK278 GE278 HB NB277_278 NB278_277 BK277; have hnb6 := NB278_277.out; have hnc6 := NB277_278.out; have hz7 := cz3_ BK278; have hz8 := cz5_ BK277) | ((with_reducible refine gc_ 64 rfl ?_); refine gL_ (some 8) Try.func64 #[.slice A1_0 l1_0.length c1_0, .func (.func 65) #[] #[.pointer (some ⟨gb277, 0, none⟩)]] ?_; refine (slices_ContainsFunc_int_int.calls k _ _ l1_0 A0_4 c0_4 l0_4 t279 _ ?side1 ?side2 ?side3 ?side4 gb277 (.int .i64 a0_0) (.string a0_1) (.slice A0_2 l0_2.length c0_2) (.int .u8 a0_3) ?sideb A3.out).mono ?_; (case side1 => exact cB_ HR1_0); (case side2 => exact HC1_0.out); (case side3 => exact cB_ HR0_4); (case side4 => exact HC0_4.out); (case sideb => ((with_reducible repeat (first | refine blk_drewN ?_ _ | refine blk_drew ?_ | refine blk_alloc ?_ _)); exact BK277.out)); rintro e w' ⟨rfl, ⟨nd, rfl⟩⟩; refine ⟨_, rfl, ?_⟩))
 go_ret
 exact ⟨re_, hb_⟩

/-! ### task_Open: function 52 -/
def task_Open.f (k : Nat) (l0_0 : List Int) (a0_1 : Int) (a0_2 : Int) (a1_0 : Int) (a1_1 : Int) (a1_2 : Int) (a1_3 : Int) (a1_4 : Int) (a2 : Int) : Option (Int × Int × Int × Int × Int × Int) := (task_count.f a2).bind fun t283 => ((task_in.f k l0_0 a0_1 a0_2 a1_0 a1_1 a1_2 a1_3 a1_4 t283 0).bind fun t284 => (if t284 = 0 then (some (1, 0, 0, 0, a2, 0)) else (some (0, 0, 0, 0, 0, t284))))
theorem task_Open.mono : ∀ a0 a1 a2 a3 a4 a5 a6 a7 a8 k, LeO (task_Open.f k a0 a1 a2 a3 a4 a5 a6 a7 a8) (task_Open.f (k + 1) a0 a1 a2 a3 a4 a5 a6 a7 a8) := by
 intro a0 a1 a2 a3 a4 a5 a6 a7 a8 k; unfold task_Open.f
 repeat' first
   | (with_reducible exact LeO.refl _)
   | (with_reducible refine LeO.ite ?_ ?_)
   | (with_reducible refine LeO.bind ?_ (fun _ => ?_))
   | exact task_in.mono _ _ _ _ _ _ _ _ _ _ _
   | exact LeO.none _
   | refine LeO.ite ?_ ?_
   | refine LeO.bind ?_ (fun _ => ?_)
set_option maxHeartbeats 8000000 in
set_option maxRecDepth 100000 in
theorem task_Open.calls (k : Nat) (A0_0 : Option Addr) (c0_0 : Nat) (l0_0 : List Int) (a0_1 : Int) (a0_2 : Int) (a1_0 : Int) (a1_1 : Int) (a1_2 : Int) (a1_3 : Int) (a1_4 : Int) (a2 : Int) (r1 : Int) (r2 : Int) (r3 : Int) (r4 : Int) (r5 : Int) (r6 : Int) (w : World) (hr0_0 : Kd.C (Kd.int .i64) w A0_0 l0_0.length l0_0) (hc0_0 : l0_0.length ≤ c0_0) (h : task_Open.f k l0_0 a0_1 a0_2 a1_0 a1_1 a1_2 a1_3 a1_4 a2 = some (r1, r2, r3, r4, r5, r6)) :
  Calls Try.prog 52 #[.agg #[.slice A0_0 l0_0.length c0_0, .int .i64 a0_1, .int .i64 a0_2], .agg #[.int .u8 a1_0, .int .i64 a1_1, .int .i64 a1_2, .int .i64 a1_3, .int .i64 a1_4], .int .i64 a2] w fun e w' => e = .returned (.tuple #[.agg #[.int .u8 r1, .int .i64 r2, .int .i64 r3, .int .i64 r4, .int .i64 r5], .int .i64 r6]) ∧ Below w.heap.size w w' := by
 have hu60 := Try.underlying60; have hu35 := Try.underlying35; have HR0_0 := A_ hr0_0; have HC0_0 := A_ hc0_0; clear hr0_0 hc0_0; have HB := A_ (Below.refl w.heap.size w); have H : ((task_count.f a2).bind fun t283 => ((task_in.f k l0_0 a0_1 a0_2 a1_0 a1_1 a1_2 a1_3 a1_4 t283 0).bind fun t284 => (if t284 = 0 then (some (1, 0, 0, 0, a2, 0)) else (some (0, 0, 0, 0, 0, t284))))) = some (r1, r2, r3, r4, r5, r6) := h; clear h; replace H := Option.bind_eq_some_iff.mp H; obtain ⟨t283, A40, H⟩ := H; replace H : ((task_in.f k l0_0 a0_1 a0_2 a1_0 a1_1 a1_2 a1_3 a1_4 t283 0).bind fun t284 => (if t284 = 0 then (some (1, 0, 0, 0, a2, 0)) else (some (0, 0, 0, 0, 0, t284)))) = some (r1, r2, r3, r4, r5, r6) := H; have A4 := Aside0.mk A40; clear A40; replace H := Option.bind_eq_some_iff.mp H; obtain ⟨t284, A50, H⟩ := H; replace H : (if t284 = 0 then (some (1, 0, 0, 0, a2, 0)) else (some (0, 0, 0, 0, 0, t284))) = some (r1, r2, r3, r4, r5, r6) := H; have A5 := Aside0.mk A50; clear A50
 by_cases c6 : t284 = 0
 ·
  rw [if_pos c6] at H; have c6b0 : (t284 == 0) = true := beq_iff_eq.mpr c6; have c6b1 : (t284 != 0) = false := bne_eq_false_iff_eq.mpr c6; clear c6; simp only [Option.some.injEq, Prod.mk.injEq] at H; obtain ⟨rfl, rfl, rfl, rfl, rfl, rfl⟩ := H
  go_enter Try.func52, Try.ntmps52
  try go_wp2_with (first | ((with_reducible refine gd_ 3 rfl ?_); refine by0_ 3 #[.slice A0_0 l0_0.length c0_0, .int .i64 a0_1, .int .i64 a0_2] 60 ?_; clear HB; intro gb280 w7 BK280 GE280 HB; have GW280 := GE280) | ((with_reducible refine gd_ 4 rfl ?_); refine by1_ 4 #[.int .u8 a1_0, .int .i64 a1_1, .int .i64 a1_2, .int .i64 a1_3, .int .i64 a1_4] 35 BK280 ?_; clear HB BK280; intro gb281 w8 BK281 GE281 HB NB280_281 NB281_280 BK280; have GW281 := GE281) | ((with_reducible refine gd_ 6 rfl ?_); refine by2_ 6 #[.int .u8 0, .int .i64 0, .int .i64 0, .int .i64 0, .int .i64 0] 35 BK280 BK281 ?_; clear HB BK280 BK281; intro gb282 w9 BK282 GE282 HB NB280_282 NB282_280 BK280 NB281_282 NB282_281 BK281; have GW282 := GE282))
  replace BK280 := A_ (blk_drew BK280.out); replace BK281 := A_ (blk_drew BK281.out); replace BK282 := A_ (blk_drew BK282.out); replace HB := A_ (below_drew1 HB.out); refine start_ (n := 6) (S := fun w' => w'.cell? ⟨gb280, 0, none⟩ = some (.slice A0_0 l0_0.length c0_0) ∧ w'.cell? ⟨gb280, 1, none⟩ = some (.int .i64 a0_1) ∧ w'.cell? ⟨gb280, 2, none⟩ = some (.int .i64 a0_2) ∧ w'.cell? ⟨gb281, 0, none⟩ = some (.int .u8 a1_0) ∧ w'.cell? ⟨gb281, 1, none⟩ = some (.int .i64 a1_1) ∧ w'.cell? ⟨gb281, 2, none⟩ = some (.int .i64 a1_2) ∧ w'.cell? ⟨gb281, 3, none⟩ = some (.int .i64 a1_3) ∧ w'.cell? ⟨gb281, 4, none⟩ = some (.int .i64 a1_4)) (ds := []) (b_ 6 0) (by kernel_rfl) rfl rfl ⟨ck_ BK280 0, ck_ BK280 1, ck_ BK280 2, ck_ BK281 0, ck_ BK281 1, ck_ BK281 2, ck_ BK281 3, ck_ BK281 4⟩ (fun hHeld => ?_); generalize w9.drew = w10 at BK280 BK281 BK282 HB hHeld ⊢; refine pure_ (i := 2) (N := some 11) (v := ?_) (a' := ?_) (b_ 6 4) rfl rfl (by kernel_rfl) (fun _ _ _ h => h) (Or.inl ⟨by rfl, ?_⟩) ?_ ?_; rotate_left
  ·
   intro w'; go_simp; (with_reducible rfl)
  rotate_left
  ·
   simp only [Act.put, sa_, s0_, s1_, i64_w, i32_w]
   rfl
  refine take_ (i := 0) (N := some 9) (v := ?_) (a' := ?_) (b_ 6 5) rfl rfl (by kernel_rfl) (fun _ _ _ h => h) (Or.inl ⟨by rfl, ?_⟩) hHeld ?_ ?_; rotate_left
  ·
   rintro w' ⟨s0, s1, s2, s3, s4, s5, s6, s7⟩; go_simp; (with_reducible rfl)
  rotate_left
  ·
   simp only [Act.put, sa_, s0_, s1_, i64_w, i32_w]
   rfl
  refine take_ (i := 1) (N := some 10) (v := ?_) (a' := ?_) (b_ 6 7) rfl rfl (by kernel_rfl) (fun _ _ _ h => h) (Or.inl ⟨by rfl, ?_⟩) hHeld ?_ ?_; rotate_left
  ·
   rintro w' ⟨s0, s1, s2, s3, s4, s5, s6, s7⟩; go_simp; (with_reducible rfl)
  rotate_left
  ·
   simp only [Act.put, sa_, s0_, s1_, i64_w, i32_w]
   rfl
  refine one_ (i := 3) (N := some 12) (b_ 6 15) rfl rfl (by kernel_rfl) (by decide) (fun K hK => ?_); refine goes_ Try.func55 (by kernel_rfl) rfl #[.int .i64 a2] (by rfl) rfl rfl ga_ ?_; (with_reducible refine (task_count.calls a2 t283 _ A4.out).mono ?_); rintro e w' ⟨rfl, ⟨nd, rfl⟩⟩; refine ⟨_, rfl, ?_⟩; refine hK.out _ _ ⟨ck_ BK280 0, ck_ BK280 1, ck_ BK280 2, ck_ BK281 0, ck_ BK281 1, ck_ BK281 2, ck_ BK281 3, ck_ BK281 4⟩ (fun hHeld => ?_); clear hK K; refine norm_ (a' := ?_) ?_ ?_; rotate_left
  ·
   show Act.put _ (some 12) _ = _; simp only [Act.put, sa_, s0_, s1_, i64_w, i32_w]
   rfl
  refine one_ (i := 4) (N := some 13) (b_ 6 31) rfl rfl (by kernel_rfl) (by decide) (fun K hK => ?_); refine goes_ Try.func54 (by kernel_rfl) rfl #[.agg #[.slice A0_0 l0_0.length c0_0, .int .i64 a0_1, .int .i64 a0_2], .agg #[.int .u8 a1_0, .int .i64 a1_1, .int .i64 a1_2, .int .i64 a1_3, .int .i64 a1_4], .bool t283, .int .u8 0] (by rfl) rfl rfl ga_ ?_; (with_reducible refine (task_in.calls k _ _ l0_0 a0_1 a0_2 a1_0 a1_1 a1_2 a1_3 a1_4 t283 0 t284 _ ?side1 ?side2 A5.out).mono ?_); (case side1 => exact cX_ (Kd.C_below HR0_0.out hb_)); (case side2 => exact HC0_0.out); rintro e w11 ⟨rfl, hb⟩; refine ⟨_, rfl, ?_⟩; replace BK280 := bs_ BK280 hb; replace BK281 := bs_ BK281 hb; replace BK282 := bs_ BK282 hb; replace HB := bB_ hb; (try clear hb); refine hK.out _ _ ⟨ck_ BK280 0, ck_ BK280 1, ck_ BK280 2, ck_ BK281 0, ck_ BK281 1, ck_ BK281 2, ck_ BK281 3, ck_ BK281 4⟩ (fun hHeld => ?_); clear hK K; refine norm_ (a' := ?_) ?_ ?_
  rotate_left
  ·
   show Act.put _ (some 13) _ = _; simp only [Act.put, sa_, s0_, s1_, i64_w, i32_w]
   rfl
  refine pure_ (i := 5) (N := some 8) (v := ?_) (a' := ?_) (b_ 6 63) rfl rfl (by kernel_rfl) (fun _ _ _ h => h) (Or.inl ⟨by rfl, ?_⟩) ?_ ?_; rotate_left
  ·
   intro w'; go_simp; (with_reducible rfl)
  rotate_left
  ·
   simp only [Act.put, sa_, s0_, s1_, i64_w, i32_w]
   rfl
  refine done_ (by kernel_rfl) ?_; have hz14 := cz5_ BK282
  try go_wp2
  refine bodyPost_ret (results_ct rfl _ _ gb282 35 #[.int .u8 1, .int .i64 0, .int .i64 0, .int .i64 0, .int .i64 a2] (0, 0) _ rfl (bP_ BK282) Try.underlying35 rfl (by kernel_rfl)) rfl ?_
  exact ⟨re_, hb_⟩
 ·
  rw [if_neg c6] at H; have c6b0 : (t284 == 0) = false := beq_eq_false_iff_ne.mpr c6; have c6b1 : (t284 != 0) = true := bne_iff_ne.mpr c6; simp only [Option.some.injEq, Prod.mk.injEq] at H; obtain ⟨rfl, rfl, rfl, rfl, rfl, rfl⟩ := H
  go_enter Try.func52, Try.ntmps52
  try go_wp2_with (first | ((with_reducible refine gd_ 3 rfl ?_); refine by0_ 3 #[.slice A0_0 l0_0.length c0_0, .int .i64 a0_1, .int .i64 a0_2] 60 ?_; clear HB; intro gb280 w15 BK280 GE280 HB; have GW280 := GE280) | ((with_reducible refine gd_ 4 rfl ?_); refine by1_ 4 #[.int .u8 a1_0, .int .i64 a1_1, .int .i64 a1_2, .int .i64 a1_3, .int .i64 a1_4] 35 BK280 ?_; clear HB BK280; intro gb281 w16 BK281 GE281 HB NB280_281 NB281_280 BK280; have GW281 := GE281) | ((with_reducible refine gd_ 6 rfl ?_); refine by2_ 6 #[.int .u8 0, .int .i64 0, .int .i64 0, .int .i64 0, .int .i64 0] 35 BK280 BK281 ?_; clear HB BK280 BK281; intro gb282 w17 BK282 GE282 HB NB280_282 NB282_280 BK280 NB281_282 NB282_281 BK281; have GW282 := GE282))
  replace BK280 := A_ (blk_drew BK280.out); replace BK281 := A_ (blk_drew BK281.out); replace BK282 := A_ (blk_drew BK282.out); replace HB := A_ (below_drew1 HB.out); refine start_ (n := 6) (S := fun w' => w'.cell? ⟨gb280, 0, none⟩ = some (.slice A0_0 l0_0.length c0_0) ∧ w'.cell? ⟨gb280, 1, none⟩ = some (.int .i64 a0_1) ∧ w'.cell? ⟨gb280, 2, none⟩ = some (.int .i64 a0_2) ∧ w'.cell? ⟨gb281, 0, none⟩ = some (.int .u8 a1_0) ∧ w'.cell? ⟨gb281, 1, none⟩ = some (.int .i64 a1_1) ∧ w'.cell? ⟨gb281, 2, none⟩ = some (.int .i64 a1_2) ∧ w'.cell? ⟨gb281, 3, none⟩ = some (.int .i64 a1_3) ∧ w'.cell? ⟨gb281, 4, none⟩ = some (.int .i64 a1_4)) (ds := []) (b_ 6 0) (by kernel_rfl) rfl rfl ⟨ck_ BK280 0, ck_ BK280 1, ck_ BK280 2, ck_ BK281 0, ck_ BK281 1, ck_ BK281 2, ck_ BK281 3, ck_ BK281 4⟩ (fun hHeld => ?_); generalize w17.drew = w18 at BK280 BK281 BK282 HB hHeld ⊢; refine pure_ (i := 2) (N := some 11) (v := ?_) (a' := ?_) (b_ 6 4) rfl rfl (by kernel_rfl) (fun _ _ _ h => h) (Or.inl ⟨by rfl, ?_⟩) ?_ ?_; rotate_left
  ·
   intro w'; go_simp; (with_reducible rfl)
  rotate_left
  ·
   simp only [Act.put, sa_, s0_, s1_, i64_w, i32_w]
   rfl
  refine take_ (i := 0) (N := some 9) (v := ?_) (a' := ?_) (b_ 6 5) rfl rfl (by kernel_rfl) (fun _ _ _ h => h) (Or.inl ⟨by rfl, ?_⟩) hHeld ?_ ?_; rotate_left
  ·
   rintro w' ⟨s0, s1, s2, s3, s4, s5, s6, s7⟩; go_simp; (with_reducible rfl)
  rotate_left
  ·
   simp only [Act.put, sa_, s0_, s1_, i64_w, i32_w]
   rfl
  refine take_ (i := 1) (N := some 10) (v := ?_) (a' := ?_) (b_ 6 7) rfl rfl (by kernel_rfl) (fun _ _ _ h => h) (Or.inl ⟨by rfl, ?_⟩) hHeld ?_ ?_; rotate_left
  ·
   rintro w' ⟨s0, s1, s2, s3, s4, s5, s6, s7⟩; go_simp; (with_reducible rfl)
  rotate_left
  ·
   simp only [Act.put, sa_, s0_, s1_, i64_w, i32_w]
   rfl
  refine one_ (i := 3) (N := some 12) (b_ 6 15) rfl rfl (by kernel_rfl) (by decide) (fun K hK => ?_); refine goes_ Try.func55 (by kernel_rfl) rfl #[.int .i64 a2] (by rfl) rfl rfl ga_ ?_; (with_reducible refine (task_count.calls a2 t283 _ A4.out).mono ?_); rintro e w' ⟨rfl, ⟨nd, rfl⟩⟩; refine ⟨_, rfl, ?_⟩; refine hK.out _ _ ⟨ck_ BK280 0, ck_ BK280 1, ck_ BK280 2, ck_ BK281 0, ck_ BK281 1, ck_ BK281 2, ck_ BK281 3, ck_ BK281 4⟩ (fun hHeld => ?_); clear hK K; refine norm_ (a' := ?_) ?_ ?_; rotate_left
  ·
   show Act.put _ (some 12) _ = _; simp only [Act.put, sa_, s0_, s1_, i64_w, i32_w]
   rfl
  refine one_ (i := 4) (N := some 13) (b_ 6 31) rfl rfl (by kernel_rfl) (by decide) (fun K hK => ?_); refine goes_ Try.func54 (by kernel_rfl) rfl #[.agg #[.slice A0_0 l0_0.length c0_0, .int .i64 a0_1, .int .i64 a0_2], .agg #[.int .u8 a1_0, .int .i64 a1_1, .int .i64 a1_2, .int .i64 a1_3, .int .i64 a1_4], .bool t283, .int .u8 0] (by rfl) rfl rfl ga_ ?_; (with_reducible refine (task_in.calls k _ _ l0_0 a0_1 a0_2 a1_0 a1_1 a1_2 a1_3 a1_4 t283 0 t284 _ ?side1 ?side2 A5.out).mono ?_); (case side1 => exact cX_ (Kd.C_below HR0_0.out hb_)); (case side2 => exact HC0_0.out); rintro e w19 ⟨rfl, hb⟩; refine ⟨_, rfl, ?_⟩; replace BK280 := bs_ BK280 hb; replace BK281 := bs_ BK281 hb; replace BK282 := bs_ BK282 hb; replace HB := bB_ hb; (try clear hb); refine hK.out _ _ ⟨ck_ BK280 0, ck_ BK280 1, ck_ BK280 2, ck_ BK281 0, ck_ BK281 1, ck_ BK281 2, ck_ BK281 3, ck_ BK281 4⟩ (fun hHeld => ?_); clear hK K; refine norm_ (a' := ?_) ?_ ?_
  rotate_left
  ·
   show Act.put _ (some 13) _ = _; simp only [Act.put, sa_, s0_, s1_, i64_w, i32_w]
   rfl
  refine pure_ (i := 5) (N := some 8) (v := ?_) (a' := ?_) (b_ 6 63) rfl rfl (by kernel_rfl) (fun _ _ _ h => h) (Or.inl ⟨by rfl, ?_⟩) ?_ ?_; rotate_left
  ·
   intro w'; go_simp; (with_reducible rfl)
  rotate_left
  ·
   simp only [Act.put, sa_, s0_, s1_, i64_w, i32_w]
   rfl
  refine done_ (by kernel_rfl) ?_; have hz22 := cz5_ BK282
  try go_wp2
  refine bodyPost_ret (results_ct rfl _ _ gb282 35 #[.int .u8 0, .int .i64 0, .int .i64 0, .int .i64 0, .int .i64 0] (0, 0) _ rfl (bP_ BK282) Try.underlying35 rfl (by kernel_rfl)) rfl ?_
  exact ⟨re_, hb_⟩

end Go.Proofs.Ytbiphljdommacaa.R

/- Contracts of Go functions and what they come to, over the translation of this seat: made by a program of this session (print2.py). -/
import Derived.Test.YtbiphljdommacaaS3
import Derived.Test.YtbiphljdommacaaSh
import Derived.Test.YtbiphljdommacaaRx6
import Derived.Test.YtbiphljdommacaaRx23
namespace Go.Proofs.Ytbiphljdommacaa.R
open Go.RowKit Go.Proofs.Ytbiphljdommacaa.S3 Go.Proofs.Ytbiphljdommacaa.Sh Go.Proofs.Ytbiphljdommacaa.Co Go.Proofs.Ytbiphljdommacaa.Ret Go.Proofs.Ytbiphljdommacaa.Plain Go.Proofs.YtbiphljdommacaaW.PrintWords Go.Proofs.YtbiphljdommacaaW.PrintLast Go.Proofs.YtbiphljdommacaaW.PrintMore Go.Proofs.Ytbiphljdommacaa.Ti
attribute [local go_sem] max2_int min2_int max_two min_two max_three min_three max_four min_four   -- for this text's walks alone
set_option linter.unusedVariables false
set_option linter.unusedSimpArgs false

/-! ### dag_Check: function 24 -/
mutual
def dag_Check.j0 : Nat → Int → Bool → List (S60) → Option (Int)
 | 0, _, _, _ => none
 | k + 1, x3, x23, x246000 => if x23 = true then (some 230) else (dag_Check.l0 k x3 x246000 (x246000.length : Int) 0)
def dag_Check.l0 : Nat → Int → List (S60) → Int → Int → Option (Int)
 | 0, _, _, _, _ => none
 | k + 1, x3, x25, x26, x27 => if x27 < x26 then (if 0 ≤ x27 then (if x27 < (x25.length : Int) then ((dag_shaped.f k x27 x3 ((rd_T60 x25 x27).f0) ((rd_T60 x25 x27).f1) ((rd_T60 x25 x27).f2)).bind fun t248 => (if t248 = true then (dag_Check.l0 k x3 x25 x26 (wrap64 (x27 + 1))) else (some 230))) else (none)) else (none)) else (if (manyOk x25 && shapeS x25) = true then (some (if cycS x25 = true then 230 else 0)) else none)
end
def dag_Check.f (k : Nat) (l0_0 : List (S60)) : Option (Int) := if (l0_0.length : Int) < 1 then (dag_Check.j0 k (l0_0.length : Int) true l0_0) else (dag_Check.j0 k (l0_0.length : Int) (decide ((l0_0.length : Int) > 12)) l0_0)
theorem dag_Check.mono_l : ∀ k, (∀ y0 y1 y2, LeO (dag_Check.j0 k y0 y1 y2) (dag_Check.j0 (k + 1) y0 y1 y2)) ∧ (∀ y0 y1 y2 y3, LeO (dag_Check.l0 k y0 y1 y2 y3) (dag_Check.l0 (k + 1) y0 y1 y2 y3))
 | 0 => ⟨fun _ _ _ r h => by simp [dag_Check.j0] at h, fun _ _ _ _ r h => by simp [dag_Check.l0] at h⟩
 | k + 1 => by
  obtain ⟨ih0, ih1⟩ := dag_Check.mono_l k
  refine ⟨?_, ?_⟩
  ·
   intro y0 y1 y2
   unfold dag_Check.j0
   repeat' first
   | (with_reducible exact LeO.refl _)
   | (with_reducible refine LeO.ite ?_ ?_)
   | (with_reducible refine LeO.bind ?_ (fun _ => ?_))
   | exact ih0 _ _ _
   | exact ih1 _ _ _ _
   | exact dag_shaped.mono _ _ _ _ _ _
   | exact LeO.none _
   | refine LeO.ite ?_ ?_
   | refine LeO.bind ?_ (fun _ => ?_)
  ·
   intro y0 y1 y2 y3
   unfold dag_Check.l0
   repeat' first
   | (with_reducible exact LeO.refl _)
   | (with_reducible refine LeO.ite ?_ ?_)
   | (with_reducible refine LeO.bind ?_ (fun _ => ?_))
   | exact ih0 _ _ _
   | exact ih1 _ _ _ _
   | exact dag_shaped.mono _ _ _ _ _ _
   | exact LeO.none _
   | refine LeO.ite ?_ ?_
   | refine LeO.bind ?_ (fun _ => ?_)
theorem dag_Check.mono : ∀ a0 k, LeO (dag_Check.f k a0) (dag_Check.f (k + 1) a0) := by
 intro a0 k
 obtain ⟨ih0, ih1⟩ := dag_Check.mono_l k
 unfold dag_Check.f
 repeat' first
   | (with_reducible exact LeO.refl _)
   | (with_reducible refine LeO.ite ?_ ?_)
   | (with_reducible refine LeO.bind ?_ (fun _ => ?_))
   | exact ih0 _ _ _
   | exact ih1 _ _ _ _
   | exact dag_shaped.mono _ _ _ _ _ _
   | exact LeO.none _
   | refine LeO.ite ?_ ?_
   | refine LeO.bind ?_ (fun _ => ?_)
set_option maxHeartbeats 8000000 in
set_option maxRecDepth 100000 in
theorem dag_Check.calls (k : Nat) (A0_0 : Option Addr) (c0_0 : Nat) (l0_0 : List (S60)) (r : Int) (w : World) (hr0_0 : Kd.C k60 w A0_0 l0_0.length l0_0) (hc0_0 : l0_0.length ≤ c0_0) (h : dag_Check.f k l0_0 = some r) :
  Calls Try.prog 24 #[.agg #[.slice A0_0 l0_0.length c0_0]] w fun e w' => e = .returned (.int .i64 r) ∧ Below w.heap.size w w' := by
 have hu24 := Try.underlying24; have hu60 := Try.underlying60; have HR0_0 := A_ hr0_0; have HC0_0 := A_ hc0_0; clear hr0_0 hc0_0; have HB := A_ (Below.refl w.heap.size w); have H : (if (l0_0.length : Int) < 1 then (dag_Check.j0 k (l0_0.length : Int) true l0_0) else (dag_Check.j0 k (l0_0.length : Int) (decide ((l0_0.length : Int) > 12)) l0_0)) = some r := h; clear h; have HC2 := Aside0.mk H; clear H
 go_enter Try.func24, Try.ntmps24
 go_upto_region 2 with (first | ((with_reducible refine gd_ 1 rfl ?_); refine by0_ 1 #[.slice A0_0 l0_0.length c0_0] 24 ?_; clear HB; intro gb245 w3 BK245 GE245 HB; have hcz4_0 : w3.cell? ⟨gb245, 0, none⟩ = some (.slice A0_0 l0_0.length c0_0) := ck_ BK245 0; have hfz4_0 := blk_frozen BK245.out 0))
 (try simp only [Act.put, sa_, s0_, s1_])
 go_cut [23] (fun v23 wc => ∃ (kq : Nat) (x23_1 : Bool), v23 = .bool x23_1 ∧ Aside0 (dag_Check.j0 kq (l0_0.length : Int) x23_1 l0_0 = some r) ∧ Aside0 (kq ≤ k) ∧ Aside0 (wc.heap[gb245]? = some (.cells #[(.slice A0_0 l0_0.length c0_0)] 24 (0, 0))) ∧ Aside0 (Below w.heap.size w wc))
 case first =>
  have H := HC2.out; clear HC2
  by_cases c5 : (l0_0.length : Int) < 1
  ·
   rw [if_pos c5] at H; have c5b0 : decide ((l0_0.length : Int) < 1) = true := decide_eq_true c5; have c5b1 : decide (l0_0.length < 1) = true := decide_eq_true (by omega); clear c5
   (first | rw [c5b0] | (simp only [i64_w, i32_w]; rw [c5b0]) | skip)
   have H' := Aside0.mk H; clear H
   go_wp2
   go_meet
   case rel => exact ⟨_, (true), rl_, H', ⟨le_⟩, ⟨bY_ BK245⟩, ⟨hb_⟩⟩
  ·
   rw [if_neg c5] at H; have c5b0 : decide ((l0_0.length : Int) < 1) = false := decide_eq_false c5; have c5b1 : decide (l0_0.length < 1) = false := decide_eq_false (by omega); clear c5
   (first | rw [c5b0] | (simp only [i64_w, i32_w]; rw [c5b0]) | skip)
   have H' := Aside0.mk H; clear H
   go_wp2
   go_meet
   case rel => exact ⟨_, (decide ((l0_0.length : Int) > 12)), rl_, H', ⟨le_⟩, ⟨bY_ BK245⟩, ⟨hb_⟩⟩
 case rest =>
  clear HC2; (try clear c5); (try clear c5b0); (try clear c5b1); (try clear hcz4_0); (try clear hfz4_0); obtain ⟨kq, x23_1, rfl, HA, HJ1, BK245, HB⟩ := hcut
  cases kq with
  | zero => exact absurd HA.out (by simp [dag_Check.j0])
  | succ kj1 =>
   have H := HA.out; clear HA; simp only [dag_Check.j0] at H
   by_cases c6 : x23_1 = true
   ·
    subst c6; have H1 : (some 230) = some r := by rw [if_pos rfl] at H; exact H
    clear H; have H := H1; clear H1; obtain rfl := Option.some.inj H
    go_wp2
    go_ret
    exact ⟨re_, hb_⟩
   ·
    replace c6 := Bool.eq_false_iff.mpr c6; subst c6; have H1 : (dag_Check.l0 kj1 (l0_0.length : Int) l0_0 (l0_0.length : Int) 0) = some r := by rw [if_neg (show ¬ (false = true) by decide)] at H; exact H
    clear H; have H := H1; clear H1; have H' := Aside0.mk H; clear H; have hcz7_0 : wc.cell? ⟨gb245, 0, none⟩ = some (.slice A0_0 l0_0.length c0_0) := ck_ BK245 0; have hfz7_0 := blk_frozen BK245.out 0
    go_wp2
    go_loopg [27] kj1 (fun kq v27 w' => ∃ (x27_2 : Int), v27 = .int .i64 x27_2 ∧ Aside0 (dag_Check.l0 kq (l0_0.length : Int) l0_0 (l0_0.length : Int) x27_2 = some r) ∧ Aside0 (kq ≤ kj1) ∧ Aside0 (w'.heap[gb245]? = some (.cells #[(.slice A0_0 l0_0.length c0_0)] 24 (0, 0))) ∧ Aside0 (Below w.heap.size w w'))
    case atStart => exact ⟨(0), rl_, H', ⟨Nat.le_refl _⟩, ⟨bY_ BK245⟩, ⟨hb_⟩⟩
    case round =>
     clear H'; (try clear c5); (try clear c5b0); (try clear c5b1); (try clear c6); (try clear hcz4_0); (try clear hcz7_0); (try clear hfz4_0); (try clear hfz7_0); obtain ⟨x27_2, rfl, HA, HK2, BK245, HB⟩ := hrel
     cases gk with
     | zero => exact absurd HA.out (by simp [dag_Check.l0])
     | succ k2 =>
      have H := HA.out; clear HA; simp only [dag_Check.l0] at H
      by_cases c8 : x27_2 < (l0_0.length : Int)
      ·
       rw [if_pos c8] at H; have c8b0 : decide (x27_2 < (l0_0.length : Int)) = true := decide_eq_true c8; clear c8
       by_cases c9 : 0 ≤ x27_2
       ·
        rw [if_pos c9] at H; have c9b0 : decide (0 ≤ x27_2) = true := decide_eq_true c9; clear c9
        by_cases c10 : x27_2 < (l0_0.length : Int)
        ·
         rw [if_pos c10] at H; have c10b0 : decide (x27_2 < (l0_0.length : Int)) = true := decide_eq_true c10; clear c10; replace H := Option.bind_eq_some_iff.mp H; obtain ⟨t248, A110, H⟩ := H; replace H : (if t248 = true then (dag_Check.l0 k2 (l0_0.length : Int) l0_0 (l0_0.length : Int) (wrap64 (x27_2 + 1))) else (some 230)) = some r := H; have A11 := Aside0.mk A110; clear A110
         by_cases c12 : t248 = true
         ·
          subst c12; have H1 : (dag_Check.l0 k2 (l0_0.length : Int) l0_0 (l0_0.length : Int) (wrap64 (x27_2 + 1))) = some r := by rw [if_pos rfl] at H; exact H
          clear H; have H := H1; clear H1; have H' := Aside0.mk H; clear H; have p246 : 0 ≤ (x27_2 : Int) := od_; have q246 : x27_2 < (l0_0.length : Int) := od_; obtain ⟨ad246, A246_0, c246_0, e246, hx246_0, hx246_1, hx246_2, hl246_0, hi246_0⟩ := at_T60 HR0_0.out x27_2 p246 q246
          cases e246
          replace hx246_0 := cl_ HB.out hx246_0; replace hx246_1 := cl_ HB.out hx246_1; replace hx246_2 := cl_ HB.out hx246_2; have HR246_0 := A_ hi246_0; have HC246_0 := A_ hl246_0; clear hi246_0 hl246_0; replace p246 := eq_true p246; replace q246 := eq_true q246
          go_wp2_with (first | ((with_reducible refine gd_ 5 rfl ?_); refine by1_ 5 #[.slice none 0 0, .int .i64 0, .int .i64 0] 60 BK245 ?_; clear HB BK245; intro gb247 w13 BK247 GE247 HB NB245_247 NB247_245 BK245; have hz15 := cz3_ BK247) | ((with_reducible refine gc_ 48 rfl ?_); refine gL_ (some 35) Try.func48 #[.int .i64 x27_2, .int .i64 (l0_0.length : Int), .agg #[.slice A246_0 ((rd_T60 l0_0 x27_2).f0).length c246_0, .int .i64 ((rd_T60 l0_0 x27_2).f1), .int .i64 ((rd_T60 l0_0 x27_2).f2)]] ?_; (with_reducible refine (dag_shaped.calls k2 x27_2 (l0_0.length : Int) _ _ ((rd_T60 l0_0 x27_2).f0) ((rd_T60 l0_0 x27_2).f1) ((rd_T60 l0_0 x27_2).f2) true _ ?side1 ?side2 A11.out).mono ?_); (case side1 => exact Kd.C_below HR246_0.out hb_); (case side2 => exact HC246_0.out); rintro e w16 ⟨rfl, hb⟩; refine ⟨_, rfl, ?_⟩; replace BK245 := bF_ BK245 NB245_247.out hb; replace BK247 := bp_ BK247 hb; replace HB := bB_ hb; (try clear hb)))
          go_roundg k2
          case measure => have := HJ1.out; have := HK2.out; omega
          case rel => exact ⟨(wrap64 (x27_2 + 1)), rl_, H', ⟨by have := HJ1.out; have := HK2.out; omega⟩, ⟨bY_ BK245⟩, ⟨hb_⟩⟩
         ·
          replace c12 := Bool.eq_false_iff.mpr c12; subst c12; have H1 : (some 230) = some r := by rw [if_neg (show ¬ (false = true) by decide)] at H; exact H
          clear H; have H := H1; clear H1; obtain rfl := Option.some.inj H; have p246 : 0 ≤ (x27_2 : Int) := od_; have q246 : x27_2 < (l0_0.length : Int) := od_; obtain ⟨ad246, A246_0, c246_0, e246, hx246_0, hx246_1, hx246_2, hl246_0, hi246_0⟩ := at_T60 HR0_0.out x27_2 p246 q246
          cases e246
          replace hx246_0 := cl_ HB.out hx246_0; replace hx246_1 := cl_ HB.out hx246_1; replace hx246_2 := cl_ HB.out hx246_2; have HR246_0 := A_ hi246_0; have HC246_0 := A_ hl246_0; clear hi246_0 hl246_0; replace p246 := eq_true p246; replace q246 := eq_true q246
          go_wp2_with (first | ((with_reducible refine gd_ 5 rfl ?_); refine by1_ 5 #[.slice none 0 0, .int .i64 0, .int .i64 0] 60 BK245 ?_; clear HB BK245; intro gb247 w17 BK247 GE247 HB NB245_247 NB247_245 BK245; have hz19 := cz3_ BK247) | ((with_reducible refine gc_ 48 rfl ?_); refine gL_ (some 35) Try.func48 #[.int .i64 x27_2, .int .i64 (l0_0.length : Int), .agg #[.slice A246_0 ((rd_T60 l0_0 x27_2).f0).length c246_0, .int .i64 ((rd_T60 l0_0 x27_2).f1), .int .i64 ((rd_T60 l0_0 x27_2).f2)]] ?_; (with_reducible refine (dag_shaped.calls k2 x27_2 (l0_0.length : Int) _ _ ((rd_T60 l0_0 x27_2).f0) ((rd_T60 l0_0 x27_2).f1) ((rd_T60 l0_0 x27_2).f2) false _ ?side1 ?side2 A11.out).mono ?_); (case side1 => exact Kd.C_below HR246_0.out hb_); (case side2 => exact HC246_0.out); rintro e w20 ⟨rfl, hb⟩; refine ⟨_, rfl, ?_⟩; replace BK245 := bF_ BK245 NB245_247.out hb; replace BK247 := bp_ BK247 hb; replace HB := bB_ hb; (try clear hb)))
          go_ret
          exact ⟨re_, hb_⟩
        ·
         rw [if_neg c10] at H; exact absurd H (by simp)
       ·
        rw [if_neg c9] at H; exact absurd H (by simp)
      ·
       rw [if_neg c8] at H; have c8b0 : decide (x27_2 < (l0_0.length : Int)) = false := decide_eq_false c8; clear c8; obtain ⟨hH1, hH2⟩ : (manyOk l0_0 && shapeS l0_0) = true ∧ (if cycS l0_0 = true then (230 : Int) else 0) = r := by
        by_cases hh : (manyOk l0_0 && shapeS l0_0) = true
        ·
         rw [if_pos hh] at H
         exact ⟨hh, Option.some.inj H⟩
        ·
         rw [if_neg hh] at H; exact absurd H (by simp)
       clear H; rw [Bool.and_eq_true] at hH1; have HSH := A_ hH1.2; have hmo := (of_decide_eq_true hH1.1).2; have HRR := A_ hH2; clear hH1 hH2
       go_wp2_with (first | ((with_reducible refine gd_ 6 rfl ?_); refine box_event ?hg (N := 6) ?hd (cs := Array.replicate 144 (.bool false)) (t := 73) ?hr ?_; (case hd => rfl); (case hg => rfl); (case hr => first | (go_simp; done) | (go_simp; rfl)); intro gm hgm wm hboxm hbm; have HC : Aside0 (CSt w wm gb245 #[.slice A0_0 l0_0.length c0_0] 24 gm (fun _ _ => false)) := ⟨⟨MSt.new hboxm, blk_below BK245.out hbm, below_step HB.out hbm, by rw [hgm]; exact below_size HB.out, by rw [hgm]; exact Nat.ne_of_lt (blk_lt BK245.out)⟩⟩; clear hboxm hbm hgm BK245 HB; have hcz : wm.cell? ⟨gb245, 0, none⟩ = some (.slice A0_0 l0_0.length c0_0) := (blk_cell HC.out.b 0).trans rfl))
       go_loopg [41] l0_0.length (fun g v41 w' => ∃ i : Nat, v41 = .int .i64 (i : Int) ∧ i + g = l0_0.length ∧ Aside0 (CSt w w' gb245 #[.slice A0_0 l0_0.length c0_0] 24 gm (fun a b => decide (a < i) && edge l0_0 a b)))
       case atStart => exact ⟨0, rfl, by omega, ⟨HC.out.congr (fun a b _ _ => by simp)⟩⟩
       case round =>
        clear HC hcz; obtain ⟨i, rfl, hig, HC⟩ := hrel
        cases gk with
        | zero =>
         have hit : decide ((i : Int) < (l0_0.length : Int)) = false := decide_eq_false (by omega); have hit2 : decide (i < l0_0.length) = false := decide_eq_false (by omega); have HC0 : Aside0 (CSt w wr gb245 #[.slice A0_0 l0_0.length c0_0] 24 gm (mat (edge l0_0) 0)) := ⟨HC.out.congr (fun a b _ _ => by
          have hil : i = l0_0.length := by omega
          show (decide (a < i) && edge l0_0 a b) = edge l0_0 a b
          by_cases ha : a < i
          ·
           rw [decide_eq_true ha]; rfl
          ·
           rw [decide_eq_false ha, edge_out l0_0 a b (by omega)]; rfl)⟩
         clear HC
         go_wp2
         clear hit hit2
         go_loopg [60] l0_0.length (fun g v60 w' => ∃ k : Nat, v60 = .int .i64 (k : Int) ∧ k + g = l0_0.length ∧ Aside0 (CSt w w' gb245 #[.slice A0_0 l0_0.length c0_0] 24 gm (mat (edge l0_0) k)))
         case atStart => exact ⟨0, rfl, by omega, HC0⟩
         case round =>
          clear HC0; obtain ⟨kk, rfl, hkg, HC⟩ := hrel
          cases gk with
          | zero =>
           have hkt : decide (kk < l0_0.length) = false := decide_eq_false (by omega); have hkt2 : decide ((kk : Int) < (l0_0.length : Int)) = false := decide_eq_false (by omega); have hkk : kk = l0_0.length := by omega
           have HC0 : Aside0 (CSt w wr gb245 #[.slice A0_0 l0_0.length c0_0] 24 gm (mat (edge l0_0) l0_0.length)) := ⟨HC.out.congr (fun _ _ _ _ => by rw [hkk])⟩; clear HC hkk
           go_wp2
           clear hkt hkt2
           go_loopg [98] l0_0.length (fun g v98 w' => ∃ i : Nat, v98 = .int .i64 (i : Int) ∧ i + g = l0_0.length ∧ Aside0 (CSt w w' gb245 #[.slice A0_0 l0_0.length c0_0] 24 gm (mat (edge l0_0) l0_0.length)) ∧ Aside0 (∀ a, a < i → mat (edge l0_0) l0_0.length a a = false))
           case atStart => exact ⟨0, rfl, by omega, HC0, ⟨fun a ha => absurd ha (Nat.not_lt_zero a)⟩⟩
           case round =>
            clear HC0; obtain ⟨i4, rfl, hig4, HC, HN⟩ := hrel
            cases gk with
            | zero =>
             have hkt : decide (i4 < l0_0.length) = false := decide_eq_false (by omega); have hkt2 : decide ((i4 : Int) < (l0_0.length : Int)) = false := decide_eq_false (by omega); have hr0 : (0 : Int) = r := by
              have := HRR.out; rw [if_neg (by rw [cyc_none l0_0 (fun a ha => HN.out a (by omega))]; decide)] at this
              exact this
             subst hr0
             go_wp2
             go_ret
             exact ⟨rfl, HC.out.bel⟩
            | succ m =>
             have hil4 : i4 < l0_0.length := by omega
             have hi12 : i4 < 12 := by omega
             have h1 := HC.out.m.cell i4 i4 hi12 hi12; obtain ⟨vA, hA⟩ : ∃ v, mat (edge l0_0) l0_0.length i4 i4 = v := ⟨_, rfl⟩; rw [hA] at h1; have HA := A_ hA; clear hA
             cases vA with
             | true =>
              have hr0 : (230 : Int) = r := by
               have := HRR.out; rw [if_pos (cyc_at l0_0 i4 hil4 HA.out)] at this
               exact this
              subst hr0
              go_wp2
              go_ret
              exact ⟨rfl, HC.out.bel⟩
             | false =>
              go_wp2
              go_roundg m
              case measure => omega
              case rel =>
               refine ⟨i4 + 1, (by first | (go_num; done) | (simp; done) | rfl), by omega, HC, ⟨fun a ha => ?_⟩⟩
               by_cases e : a = i4
               ·
                rw [e]; exact HA.out
               ·
                exact HN.out a (by omega)
          | succ m =>
           have hkl : kk < l0_0.length := by omega
           have hk12 : kk < 12 := by omega
           have HC1 : Aside0 (CSt w wr gb245 #[.slice A0_0 l0_0.length c0_0] 24 gm (fun a b => if a < 0 then mat (edge l0_0) (kk + 1) a b else mat (edge l0_0) kk a b)) := ⟨HC.out.congr (fun a b _ _ => by rw [if_neg (Nat.not_lt_zero a)])⟩; clear HC
           go_wp2
           go_loopg [64] l0_0.length (fun g v64 w' => ∃ i : Nat, v64 = .int .i64 (i : Int) ∧ i + g = l0_0.length ∧ Aside0 (CSt w w' gb245 #[.slice A0_0 l0_0.length c0_0] 24 gm (fun a b => if a < i then mat (edge l0_0) (kk + 1) a b else mat (edge l0_0) kk a b)))
           case atStart => exact ⟨0, rfl, by omega, HC1⟩
           case round =>
            clear HC1; obtain ⟨i2, rfl, hig2, HC⟩ := hrel
            cases gk with
            | zero =>
             have hkt : decide (i2 < l0_0.length) = false := decide_eq_false (by omega); have hkt2 : decide ((i2 : Int) < (l0_0.length : Int)) = false := decide_eq_false (by omega)
             go_wp2
             go_roundg m
             case measure => omega
             case rel =>
              refine ⟨kk + 1, (by first | (go_num; done) | (simp; done) | rfl), by omega, ⟨HC.out.congr (fun a b _ _ => ?_)⟩⟩
              by_cases ha : a < i2
              ·
               rw [if_pos ha]
              ·
               rw [if_neg ha, mat_none HSH.out _ _ _ (by omega), mat_none HSH.out _ _ _ (by omega)]
            | succ m2 =>
             have hil2 : i2 < l0_0.length := by omega
             have hi12 : i2 < 12 := by omega
             have HC1 : Aside0 (CSt w wr gb245 #[.slice A0_0 l0_0.length c0_0] 24 gm (fun a b => if a < i2 ∨ (a = i2 ∧ b < 0) then mat (edge l0_0) (kk + 1) a b else mat (edge l0_0) kk a b)) := ⟨HC.out.congr (fun a b _ _ => by
              by_cases ha : a < i2
              ·
               rw [if_pos ha, if_pos (Or.inl ha)]
              ·
               rw [if_neg ha, if_neg (by omega)])⟩
             clear HC
             go_wp2
             go_loopg [68] l0_0.length (fun g v68 w' => ∃ j : Nat, v68 = .int .i64 (j : Int) ∧ j + g = l0_0.length ∧ Aside0 (CSt w w' gb245 #[.slice A0_0 l0_0.length c0_0] 24 gm (fun a b => if a < i2 ∨ (a = i2 ∧ b < j) then mat (edge l0_0) (kk + 1) a b else mat (edge l0_0) kk a b)))
             case atStart => exact ⟨0, rfl, by omega, HC1⟩
             case round =>
              clear HC1; obtain ⟨j2, rfl, hjg2, HC⟩ := hrel
              cases gk with
              | zero =>
               have hkt : decide (j2 < l0_0.length) = false := decide_eq_false (by omega); have hkt2 : decide ((j2 : Int) < (l0_0.length : Int)) = false := decide_eq_false (by omega)
               go_wp2
               go_roundg m2
               case measure => omega
               case rel =>
                refine ⟨i2 + 1, (by first | (go_num; done) | (simp; done) | rfl), by omega, ⟨HC.out.congr (fun a b _ _ => ?_)⟩⟩
                by_cases ha : a < i2 ∨ (a = i2 ∧ b < j2)
                ·
                 rw [if_pos ha, if_pos (by omega)]
                ·
                 rw [if_neg ha]
                 by_cases ha2 : a < i2 + 1
                 ·
                  rw [if_pos ha2, mat_none HSH.out _ _ _ (by omega), mat_none HSH.out _ _ _ (by omega)]
                 ·
                  rw [if_neg ha2]
              | succ m3 =>
               have hjl2 : j2 < l0_0.length := by omega
               have hj12 : j2 < 12 := by omega
               have e1 : (if i2 < i2 ∨ (i2 = i2 ∧ j2 < j2) then mat (edge l0_0) (kk + 1) i2 j2 else mat (edge l0_0) kk i2 j2) = mat (edge l0_0) kk i2 j2 := by rw [if_neg (by omega)]
               have e2 : (if i2 < i2 ∨ (i2 = i2 ∧ kk < j2) then mat (edge l0_0) (kk + 1) i2 kk else mat (edge l0_0) kk i2 kk) = mat (edge l0_0) kk i2 kk := by rw [mat_row]; split <;> rfl
               have e3 : (if kk < i2 ∨ (kk = i2 ∧ j2 < j2) then mat (edge l0_0) (kk + 1) kk j2 else mat (edge l0_0) kk kk j2) = mat (edge l0_0) kk kk j2 := by rw [mat_col]; split <;> rfl
               have h1 := (HC.out.m.cell i2 j2 hi12 hj12).trans (by rw [e1]); have h2 := (HC.out.m.cell i2 kk hi12 hk12).trans (by rw [e2]); have h3 := (HC.out.m.cell kk j2 hk12 hj12).trans (by rw [e3]); have hf1 := HC.out.m.fr i2 j2 hi12 hj12; clear e1 e2 e3; obtain ⟨vA, hA⟩ : ∃ v, mat (edge l0_0) kk i2 j2 = v := ⟨_, rfl⟩; obtain ⟨vB, hB⟩ : ∃ v, mat (edge l0_0) kk i2 kk = v := ⟨_, rfl⟩; obtain ⟨vC, hC⟩ : ∃ v, mat (edge l0_0) kk kk j2 = v := ⟨_, rfl⟩; rw [hA] at h1; rw [hB] at h2; rw [hC] at h3; have HV : Aside0 (mat (edge l0_0) (kk + 1) i2 j2 = (vA || (vB && vC))) := ⟨by rw [mat_step, hA, hB, hC]⟩; clear hA hB hC
               go_wp2
               have HHD : Aside0 (∀ b : Bool, CSt w (wr.setCell ⟨gm, i2 * 12 + j2, none⟩ (.bool b)) gb245 #[.slice A0_0 l0_0.length c0_0] 24 gm (fun a c => if a = i2 ∧ c = j2 then b else (if a < i2 ∨ (a = i2 ∧ c < j2) then mat (edge l0_0) (kk + 1) a c else mat (edge l0_0) kk a c))) := ⟨fun b => HC.out.set i2 j2 hi12 hj12 b⟩; have HG : Aside0 (∀ (b : Bool), b = (vA || (vB && vC)) → CSt w (wr.setCell ⟨gm, i2 * 12 + j2, none⟩ (.bool b)) gb245 #[.slice A0_0 l0_0.length c0_0] 24 gm (fun a c => if a < i2 ∨ (a = i2 ∧ c < j2 + 1) then mat (edge l0_0) (kk + 1) a c else mat (edge l0_0) kk a c)) := ⟨fun b hb => (HHD.out b).congr (fun a c _ _ => by
                by_cases e : a = i2 ∧ c = j2
                ·
                 rw [if_pos e, if_pos (by omega), e.1, e.2, HV.out, hb]
                ·
                 rw [if_neg e]
                 by_cases e2 : a < i2 ∨ (a = i2 ∧ c < j2)
                 ·
                  rw [if_pos e2, if_pos (by omega)]
                 ·
                  rw [if_neg e2, if_neg (by omega)])⟩
               clear HHD HV HC
               cases vA <;> cases vB <;> cases vC
               all_goals
                go_region
                go_wp2
                go_roundg m3
                case measure => omega
                case rel => exact ⟨j2 + 1, (by first | (go_num; done) | (simp; done) | rfl), by omega, ⟨CSt.drew (HG.out _ rfl)⟩⟩
        | succ m =>
         have hil : i < l0_0.length := by omega
         have hi12 : i < 12 := by omega
         obtain ⟨ad, A1, c1, e1, hx0, hx1, hx2, hl1, hi1⟩ := at_T60 HR0_0.out (i : Int) (by omega) (by omega)
         cases e1
         obtain ⟨x, hx⟩ : ∃ x, rd_T60 l0_0 (i : Int) = x := ⟨_, rfl⟩; rw [hx] at hx0 hx1 hx2 hl1 hi1; rw [Int.toNat_natCast] at hx0 hx1 hx2; replace hx0 := cl_ HC.out.bel hx0; replace hx1 := cl_ HC.out.bel hx1; replace hx2 := cl_ HC.out.bel hx2; have HXL := A_ hl1; have HXC := A_ hi1; have HX := A_ ((rd_node l0_0 i hil).symm.trans hx); clear hl1 hi1 hx; have hxl : x.f0.length ≤ 12 := by have := shape_len l0_0 HSH.out i hil; rw [HX.out] at this; omega
         go_wp2_with (first | ((with_reducible refine gd_ 8 rfl ?_); refine bx_ 8 #[.slice none 0 0, .int .i64 0, .int .i64 0] 60 ?_; intro gb hgb wb hboxb hbb; have NEb : Aside0 (gm ≠ gb ∧ gb245 ≠ gb ∧ w.heap.size ≤ gb) := ⟨by rw [hgb]; exact ⟨Nat.ne_of_lt HC.out.m.1, Nat.ne_of_lt (blk_lt HC.out.b), below_size HC.out.bel⟩⟩; have n_ := A_ (HC.out.below hbb); clear HC; have HC := n_; clear n_; have BKb := A_ hboxb; clear hboxb hbb hgb hx0 hx1 hx2; have hz0 : wb.cell? ⟨gb, 0, none⟩ = some (.slice none 0 0) := (blk_cell BKb.out 0).trans rfl; have hz1 : wb.cell? ⟨gb, 1, none⟩ = some (.int .i64 0) := (blk_cell BKb.out 1).trans rfl; have hz2 : wb.cell? ⟨gb, 2, none⟩ = some (.int .i64 0) := (blk_cell BKb.out 2).trans rfl; have hzf0 := blk_frozen BKb.out 0; have hzf1 := blk_frozen BKb.out 1; have hzf2 := blk_frozen BKb.out 2))
         obtain ⟨W, hW⟩ : ∃ W, W = (((wb.setCell ⟨gb, 0, none⟩ (.slice A1 x.f0.length c1)).setCell ⟨gb, 1, none⟩ (.int .i64 x.f1)).setCell ⟨gb, 2, none⟩ (.int .i64 x.f2)) := ⟨_, rfl⟩; have n_ : Aside0 (CSt w W gb245 #[.slice (some ad) l0_0.length c0_0] 24 gm (fun a b => decide (a < i) && edge l0_0 a b)) := ⟨by rw [hW]; exact ((HC.out.far NEb.out.1 NEb.out.2.1 NEb.out.2.2 _).far NEb.out.1 NEb.out.2.1 NEb.out.2.2 _).far NEb.out.1 NEb.out.2.1 NEb.out.2.2 _⟩; rw [← hW]; clear HC hW hz0 hz1 hz2 hzf0 hzf1 hzf2 BKb NEb; have HC := n_; clear n_
         go_loopg [49] x.f0.length (fun g v49 w' => ∃ j : Nat, v49 = .int .i64 (j : Int) ∧ j + g = x.f0.length ∧ Aside0 (CSt w w' gb245 #[.slice (some ad) l0_0.length c0_0] 24 gm (fun a b => (decide (a < i) && edge l0_0 a b) || (decide (a = i) && (x.f0.take j).contains (b : Int)))))
         case atStart => exact ⟨0, rfl, by omega, ⟨HC.out.congr (fun a b _ _ => by simp)⟩⟩
         case round =>
          clear HC; obtain ⟨j, rfl, hjg, HC⟩ := hrel
          cases gk with
          | zero =>
           have hjt : decide (j < x.f0.length) = false := decide_eq_false (by omega); have hjt2 : decide ((j : Int) < (x.f0.length : Int)) = false := decide_eq_false (by omega)
           go_wp2
           go_roundg m
           case measure => omega
           case rel =>
            refine ⟨i + 1, (by first | (go_num; done) | (simp; done) | rfl), by omega, ⟨HC.out.congr (fun a b _ _ => ?_)⟩⟩; rw [List.take_of_length_le (by omega)]
            by_cases ha : a = i
            ·
             subst ha; rw [decide_eq_false (Nat.lt_irrefl _), decide_eq_true rfl, decide_eq_true (Nat.lt_succ_self _), edge, needs_at l0_0 a hil, HX.out]
             simp
            ·
             rw [decide_eq_false ha, Bool.false_and, Bool.or_false]
             congr 1
             exact decide_eq_decide.mpr (by omega)
          | succ m2 =>
           have hjl : j < x.f0.length := by omega
           obtain ⟨ad2, e2, hy⟩ := Kd.at_int (Kd.C_below HXC.out HC.out.bel) (j : Int) (by omega) (by omega)
           cases e2
           have hq := shape_needs l0_0 HSH.out i hil x.f0[j] (by rw [needs_at l0_0 i hil, HX.out]; exact List.getElem_mem hjl); obtain ⟨q, hqe⟩ := Int.eq_ofNat_of_zero_le hq.1; have hq12 : q < 12 := by omega
           rw [rd_int x.f0 j hjl, Int.toNat_natCast, hqe] at hy; have HQ := A_ hqe; have hcm := HC.out.m.cell i q hi12 hq12; have hfm := HC.out.m.fr i q hi12 hq12; clear hq hqe
           go_wp2
           go_roundg m2
           case measure => omega
           case rel =>
            refine ⟨j + 1, (by first | (go_num; done) | (simp; done) | rfl), by omega, ⟨(HC.out.set i q hi12 hq12 true).congr (fun a b _ _ => ?_)⟩⟩; have ht : x.f0.take (j + 1) = x.f0.take j ++ [(q : Int)] := by rw [List.take_add_one, List.getElem?_eq_getElem hjl, HQ.out]; rfl
            rw [ht]
            by_cases ha : a = i
            ·
             subst ha
             by_cases hb : b = q
             ·
              subst hb
              simp
             ·
              rw [if_neg (fun e => hb e.2)]; simp only [List.contains_eq_mem, List.mem_append, List.mem_singleton]; have : ¬ ((b : Int) = (q : Int)) := by omega
              simp [this]
            ·
             rw [if_neg (fun e => ha e.1), decide_eq_false ha]
             simp

/-! ### run_ranked: function 25 -/
def run_ranked.f (a0 : Int) : Option (Bool) := if a0 ≥ 0 then (some (decide (a0 ≤ 1099511627764))) else (some false)
set_option maxHeartbeats 8000000 in
set_option maxRecDepth 100000 in
theorem run_ranked.calls (a0 : Int) (r : Bool) (w : World) (h : run_ranked.f a0 = some r) :
  Calls Try.prog 25 #[.int .i64 a0] w fun e w' => e = .returned (.bool r) ∧ Drawn0 w w' := by
 have H : (if a0 ≥ 0 then (some (decide (a0 ≤ 1099511627764))) else (some false)) = some r := h; clear h
 by_cases c2 : a0 ≥ 0
 ·
  rw [if_pos c2] at H; have c2b0 : decide (0 ≤ a0) = true := decide_eq_true c2; clear c2; obtain rfl := Option.some.inj H
  go_enter Try.func25, Try.ntmps25
  go_wp2
  go_ret
  exact ⟨rl_, by repeat (first | exact Drawn0.refl _ | apply Drawn0.step)⟩
 ·
  rw [if_neg c2] at H; have c2b0 : decide (0 ≤ a0) = false := decide_eq_false c2; clear c2; obtain rfl := Option.some.inj H
  go_enter Try.func25, Try.ntmps25
  go_wp2
  go_ret
  exact ⟨rl_, by repeat (first | exact Drawn0.refl _ | apply Drawn0.step)⟩

/-! ### slices_Clone_api_Task: function 49 -/
def slices_Clone_api_Task.f (l0 : List (S35)) : Option ((List (S35))) := (some (([] : List (S35)) : List (S35))).bind fun y249 => (if y249.length + l0.length < 3518437208883 then (some (y249 ++ l0)) else (none))
set_option maxHeartbeats 8000000 in
set_option maxRecDepth 100000 in
theorem slices_Clone_api_Task.calls (A0 : Option Addr) (c0 : Nat) (l0 : List (S35)) (r : List (S35)) (w : World) (hr0 : Kd.C k35 w A0 l0.length l0) (hc0 : l0.length ≤ c0) (h : slices_Clone_api_Task.f l0 = some r) :
  Calls Try.prog 49 #[.slice A0 l0.length c0] w fun e w' => ∃ v0_ : Value, e = .returned (v0_) ∧ Kd.R k35 35 w' w.heap.size (fun _ => True) v0_ r ∧ Below w.heap.size w w' := by
 by_cases hA : A0 = none
 ·
  subst hA; obtain rfl : l0 = [] := by
   cases l0 with
   | nil => rfl
   | cons x l =>
    obtain ⟨_, he, _⟩ := hr0.2.2 (by simp)
    cases he
  have hr : r = [] := by
   simp [slices_Clone_api_Task.f] at h
   first | exact h | exact h.symm
  subst hr; have hn := fun W : World => Lib.run_eql_slice_nil (P := Try.prog) W 27 35 none 0 c0 0 0 Try.underlying27
  go_enter Try.func49, Try.ntmps49
  go_wp2
  go_ret
  exact ⟨_, rfl, Kd.R_nil _ _ _ _ _, Below.refl _ _⟩
 ·
  have hn : ∀ W : World, (binOp .eql 27 (.slice A0 l0.length c0) (.slice none 0 0)).run Try.prog W = .ok (.bool false) W := fun W => by
   rw [Lib.run_eql_slice_nil (P := Try.prog) W 27 35 A0 l0.length c0 0 0 Try.underlying27]
   cases A0 with
   | none => exact absurd rfl hA
   | some a => rfl
  clear hA; have HR0 := A_ hr0; have HC0 := A_ hc0; clear hr0 hc0; have HB := A_ (Below.refl w.heap.size w); have H : ((some (([] : List (S35)) : List (S35))).bind fun y249 => (if y249.length + l0.length < 3518437208883 then (some (y249 ++ l0)) else (none))) = some r := h; clear h; obtain ⟨y249, hy249⟩ : ∃ y_ : List (S35), y_ = (([] : List (S35))) := ⟨_, rfl⟩; replace H : (if y249.length + l0.length < 3518437208883 then (some (y249 ++ l0)) else (none)) = some r := by first | (rw [hy249]; with_reducible exact H) | (have H2_ := (Option.bind_some _ _).symm.trans H; rw [hy249]; with_reducible exact H2_) | (have H2_ := (Option.bind_some _ _).symm.trans H; with_reducible exact H2_) | with_reducible exact H | (rw [hy249]; exact H) | exact H
  have Ny249 := A_ hy249; clear hy249
  by_cases c2 : y249.length + l0.length < 3518437208883
  ·
   rw [if_pos c2] at H; have LMc2 := Aside0.mk c2; clear c2; obtain ⟨y252, hy252⟩ : ∃ y_ : List (S35), y_ = (y249 ++ l0) := ⟨_, rfl⟩; replace H : (some y252) = some r := by first | (rw [hy252]; with_reducible exact H) | (have H2_ := (Option.bind_some _ _).symm.trans H; rw [hy252]; with_reducible exact H2_) | (have H2_ := (Option.bind_some _ _).symm.trans H; with_reducible exact H2_) | with_reducible exact H | (rw [hy252]; exact H) | exact H
   have Ny252 := A_ hy252; clear hy252; obtain rfl := Option.some.inj H
   go_enter Try.func49, Try.ntmps49
   go_wp2_with (first | ((with_reducible refine gd_ 5 rfl ?_); refine Kd.R_lit k35 _ 35 ?hg (N := 5) ?hd (xs := ([] : List (S35))) (inner := []) (ok := fun _ => True) (okp := fun _ => True) ?hr ?hp (fun _ hk => hk) trivial (Below.refl _ _) (Nat.le_refl _) (by simp) ?_; (case hd => rfl); (case hg => rfl); (case hr => first | (go_simp; done) | (go_simp; rfl)); (case hp => exact (Reps.none _ _)); intro v250 w3 ho4 hb hg_ hnew_; clear hg_ hnew_; (first | rw [← Ny249.out] at ho4 | (simp only [Int.reduceToNat] at ho4; rw [← Ny249.out] at ho4)); have HO251 := A_ (Kd.R_lower ho4 (below_size (hB_ HB.out))); replace HB := bB_ hb; clear hb ho4) | ((with_reducible refine gate_builtin (b := .append) (xs := #[.tmp 5, .tmp 6]) rfl ?_); at_builtin; refine Kd.R_append_rows k35 (w0 := w) w.heap.size rfl (.tmp 5) (.tmp 6) 27 35 (.agg #[(.int .u8 0), (.int .i64 0), (.int .i64 0), (.int .i64 0), (.int .i64 0)]) 40 rfl Try.underlying27 info35 rfl (by decide) (by omega) v250 y249 l0 _ _ _ (fun _ => True) (fun _ => False) rfl rfl ?aO ?aR (fun _ _ h => h) (fun _ h => h.elim) ?aF ?aB ?aS ?aL ?_; (case aR => exact cB_ HR0); (case aB => exact hb_); (case aF => exact (fun _ _ => trivial)); (case aO => exact (rr_ HO251.out)); (case aS => exact (below_size hb_)); (case aL => have := LMc2.out; omega); intro v253 w5 ho hb hg hat; rw [← Ny252.out] at ho; replace HB := A_ (hb); have HO254 := A_ (ho); clear ho hb hg hat))
   go_ret
   exact ⟨_, re_, rr_ HO254.out, hb_⟩
  ·
   rw [if_neg c2] at H; exact absurd H (by simp)

/-! ### slices_Clone_int_int: function 50 -/
def slices_Clone_int_int.f (l0 : List Int) : Option (List Int) := (some (([] : List Int) : List Int)).bind fun y255 => (if y255.length + l0.length < 17592186044416 then (some (y255 ++ l0)) else (none))
set_option maxHeartbeats 8000000 in
set_option maxRecDepth 100000 in
theorem slices_Clone_int_int.calls (A0 : Option Addr) (c0 : Nat) (l0 : List Int) (r : List Int) (w : World) (hr0 : Kd.C (Kd.int .i64) w A0 l0.length l0) (hc0 : l0.length ≤ c0) (h : slices_Clone_int_int.f l0 = some r) :
  Calls Try.prog 50 #[.slice A0 l0.length c0] w fun e w' => ∃ v0_ : Value, e = .returned (v0_) ∧ Kd.R (Kd.int .i64) 3 w' w.heap.size (fun _ => True) v0_ r ∧ Below w.heap.size w w' := by
 by_cases hA : A0 = none
 ·
  subst hA; obtain rfl : l0 = [] := by
   cases l0 with
   | nil => rfl
   | cons x l =>
    obtain ⟨_, he, _⟩ := hr0.2.2 (by simp)
    cases he
  have hr : r = [] := by
   simp [slices_Clone_int_int.f] at h
   first | exact h | exact h.symm
  subst hr; have hn := fun W : World => Lib.run_eql_slice_nil (P := Try.prog) W 33 3 none 0 c0 0 0 Try.underlying33
  go_enter Try.func50, Try.ntmps50
  go_wp2
  go_ret
  exact ⟨_, rfl, Kd.R_nil _ _ _ _ _, Below.refl _ _⟩
 ·
  have hn : ∀ W : World, (binOp .eql 33 (.slice A0 l0.length c0) (.slice none 0 0)).run Try.prog W = .ok (.bool false) W := fun W => by
   rw [Lib.run_eql_slice_nil (P := Try.prog) W 33 3 A0 l0.length c0 0 0 Try.underlying33]
   cases A0 with
   | none => exact absurd rfl hA
   | some a => rfl
  clear hA; have HR0 := A_ hr0; have HC0 := A_ hc0; clear hr0 hc0; have HB := A_ (Below.refl w.heap.size w); have H : ((some (([] : List Int) : List Int)).bind fun y255 => (if y255.length + l0.length < 17592186044416 then (some (y255 ++ l0)) else (none))) = some r := h; clear h; obtain ⟨y255, hy255⟩ : ∃ y_ : List Int, y_ = (([] : List Int)) := ⟨_, rfl⟩; replace H : (if y255.length + l0.length < 17592186044416 then (some (y255 ++ l0)) else (none)) = some r := by first | (rw [hy255]; with_reducible exact H) | (have H2_ := (Option.bind_some _ _).symm.trans H; rw [hy255]; with_reducible exact H2_) | (have H2_ := (Option.bind_some _ _).symm.trans H; with_reducible exact H2_) | with_reducible exact H | (rw [hy255]; exact H) | exact H
  have Ny255 := A_ hy255; clear hy255
  by_cases c2 : y255.length + l0.length < 17592186044416
  ·
   rw [if_pos c2] at H; have LMc2 := Aside0.mk c2; clear c2; obtain ⟨y258, hy258⟩ : ∃ y_ : List Int, y_ = (y255 ++ l0) := ⟨_, rfl⟩; replace H : (some y258) = some r := by first | (rw [hy258]; with_reducible exact H) | (have H2_ := (Option.bind_some _ _).symm.trans H; rw [hy258]; with_reducible exact H2_) | (have H2_ := (Option.bind_some _ _).symm.trans H; with_reducible exact H2_) | with_reducible exact H | (rw [hy258]; exact H) | exact H
   have Ny258 := A_ hy258; clear hy258; obtain rfl := Option.some.inj H
   go_enter Try.func50, Try.ntmps50
   go_wp2_with (first | ((with_reducible refine gd_ 5 rfl ?_); refine Kd.R_lit (Kd.int .i64) _ 3 ?hg (N := 5) ?hd (xs := ([] : List Int)) (inner := []) (ok := fun _ => True) (okp := fun _ => True) ?hr ?hp (fun _ hk => hk) trivial (Below.refl _ _) (Nat.le_refl _) (by simp) ?_; (case hd => rfl); (case hg => rfl); (case hr => first | (go_simp; done) | (go_simp; rfl)); (case hp => exact (Reps.none _ _)); intro v256 w3 ho4 hb hg_ hnew_; clear hg_ hnew_; (first | rw [← Ny255.out] at ho4 | (simp only [Int.reduceToNat] at ho4; rw [← Ny255.out] at ho4)); have HO257 := A_ (Kd.R_lower ho4 (below_size (hB_ HB.out))); replace HB := bB_ hb; clear hb ho4) | ((with_reducible refine gate_builtin (b := .append) (xs := #[.tmp 5, .tmp 6]) rfl ?_); at_builtin; refine Kd.R_append_rows (Kd.int .i64) (w0 := w) w.heap.size rfl (.tmp 5) (.tmp 6) 33 3 (.int .i64 0) 8 rfl Try.underlying33 info3 rfl (by decide) (by omega) v256 y255 l0 _ _ _ (fun _ => True) (fun _ => False) rfl rfl ?aO ?aR (fun _ _ h => h) (fun _ h => h.elim) ?aF ?aB ?aS ?aL ?_; (case aR => exact cB_ HR0); (case aB => exact hb_); (case aF => exact (fun _ _ => trivial)); (case aO => exact (rr_ HO257.out)); (case aS => exact (below_size hb_)); (case aL => have := LMc2.out; omega); intro v259 w5 ho hb hg hat; rw [← Ny258.out] at ho; replace HB := A_ (hb); have HO260 := A_ (ho); clear ho hb hg hat))
   go_ret
   exact ⟨_, re_, rr_ HO260.out, hb_⟩
  ·
   rw [if_neg c2] at H; exact absurd H (by simp)

end Go.Proofs.Ytbiphljdommacaa.R

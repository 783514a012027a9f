/- Contracts of Go functions and what they come to, over the translation of this seat: made by a program of this session (print2.py). -/
import Derived.Test.YtbgfjhnbmfgccaaTi
import Derived.Test.YtbgfjhnbmfgccaaSh
import Derived.Test.YtbgfjhnbmfgccaaRTV
import Derived.Test.YtbgfjhnbmfgccaaRx0
import Derived.Test.YtbgfjhnbmfgccaaRx1
import Derived.Test.YtbgfjhnbmfgccaaRx2
import Derived.Test.YtbgfjhnbmfgccaaRx4
import Derived.Test.YtbgfjhnbmfgccaaRx8
import Derived.Test.YtbgfjhnbmfgccaaRx9
import Derived.Test.YtbgfjhnbmfgccaaRx10
import Derived.Test.YtbgfjhnbmfgccaaRx11
import Derived.Test.YtbgfjhnbmfgccaaRx14
namespace Go.Proofs.Ytbgfjhnbmfgccaa.R
open Go.RowKit Go.Proofs.Ytbgfjhnbmfgccaa.Ti Go.Proofs.Ytbgfjhnbmfgccaa.Sh Go.Proofs.Ytbgfjhnbmfgccaa.Co Go.Proofs.Ytbgfjhnbmfgccaa.Ret Go.Proofs.Ytbgfjhnbmfgccaa.Plain Go.Proofs.YtbgfjhnbmfgccaaW.PrintWords Go.Proofs.YtbgfjhnbmfgccaaW.PrintLast Go.Proofs.YtbgfjhnbmfgccaaW.PrintMore
attribute [local go_sem] max2_int min2_int max_two min_two max_three min_three max_four min_four   -- for this text's walks alone
set_option linter.unusedVariables false
set_option linter.unusedSimpArgs false

attribute [local go_sem high] eqA31
/-! ### millhandlaw24_TaskNames: function 5 -/
mutual
def millhandlaw24_TaskNames.j0 : Nat → Bool → Option (Bool)
 | 0, _ => none
 | k + 1, x7 => (millhandlaw24_node.f).bind fun bt316 => ((task_Done.f k bt316.1 bt316.2.1 bt316.2.2 2 1 30 4 0 5).bind fun bt321 => ((millhandlaw24_node.f).bind fun bt328 => ((task_Done.f k bt328.1 bt328.2.1 bt328.2.2 1 0 0 0 0 4).bind fun bt333 => ((millhandlaw24_node.f).bind fun bt340 => ((task_Beat.f k bt340.1 bt340.2.1 bt340.2.2 2 1 30 4 0 4 40).bind fun bt345 => ((millhandlaw24_node.f).bind fun bt352 => ((task_Lapse.f k bt352.1 bt352.2.1 bt352.2.2 2 1 30 4 0 29).bind fun bt357 => ((millhandlaw24_node.f).bind fun bt364 => ((task_Lapse.f k bt364.1 bt364.2.1 bt364.2.2 2 1 30 4 0 30).bind fun bt369 => ((millhandlaw24_node.f).bind fun bt376 => ((task_Wake.f k bt376.1 bt376.2.1 bt376.2.2 3 1 17 0 0 8 16).bind fun bt381 => ((millhandlaw24_node.f).bind fun bt388 => ((task_Wake.f k bt388.1 bt388.2.1 bt388.2.2 3 1 17 0 0 8 17).bind fun bt393 => (if bt321.2.2.2.2.2 = 260 then (if bt333.2.2.2.2.2 = 240 then (if bt345.2.2.2.2.2 = 0 then (if bt345.2.2.1 = 40 then (if bt357.2.2.2.2.2 = 240 then (if bt369.2.2.2.2.2 = 0 then (if bt369.2.2.1 = 35 then (if bt369.1 = 3 then (if bt381.2.2.2.2.2 = 240 then (if bt393.2.2.2.2.2 = 0 then (millhandlaw24_TaskNames.j1 k x7 (bt393.1 == 1 && (bt393.2.1 == 1 && (bt393.2.2.1 == 0 && (bt393.2.2.2.1 == 0 && (bt393.2.2.2.2.1 == 8)))))) else (millhandlaw24_TaskNames.j1 k x7 false)) else (millhandlaw24_TaskNames.j1 k x7 false)) else (millhandlaw24_TaskNames.j1 k x7 false)) else (millhandlaw24_TaskNames.j1 k x7 false)) else (millhandlaw24_TaskNames.j1 k x7 false)) else (millhandlaw24_TaskNames.j1 k x7 false)) else (millhandlaw24_TaskNames.j1 k x7 false)) else (millhandlaw24_TaskNames.j1 k x7 false)) else (millhandlaw24_TaskNames.j1 k x7 false)) else (millhandlaw24_TaskNames.j1 k x7 false)))))))))))))))
def millhandlaw24_TaskNames.j1 : Nat → Bool → Bool → Option (Bool)
 | 0, _, _ => none
 | k + 1, x7, x24 => (millhandlaw24_node.f).bind fun bt400 => ((task_Drop.f k bt400.1 bt400.2.1 bt400.2.2 4 1 0 0 0).bind fun bt405 => ((millhandlaw24_node.f).bind fun bt412 => ((task_Pause.f k bt412.1 bt412.2.1 bt412.2.2 0).bind fun bt417 => ((millhandlaw24_alive.f k).bind fun t419 => (if t419 = true then (if x7 = true then (if x24 = true then (if bt405.2.2.2.2.2 = 240 then (if bt417.2 = 2 then ((task_Check.f k ([] : List Int) 0 0 0 0 0 0 0).bind fun t420 => (some (t420 == 8))) else (some false)) else (some false)) else (some false)) else (some false)) else (some false))))))
end
def millhandlaw24_TaskNames.f (k : Nat)  : Option (Bool) := (millhandlaw24_node.f).bind fun bt293 => ((task_Pause.f k bt293.1 bt293.2.1 bt293.2.2 1).bind fun bt298 => ((millhandlaw24_node.f).bind fun bt300 => ((task_Pause.f k bt300.1 bt300.2.1 bt300.2.2 2).bind fun bt305 => ((millhandlaw24_node.f).bind fun bt307 => ((task_Pause.f k bt307.1 bt307.2.1 bt307.2.2 3).bind fun bt312 => (if bt298.1 = 5 then (if bt305.1 = 10 then (if bt312.1 = 20 then (if bt298.2 = 0 then (if bt305.2 = 0 then (millhandlaw24_TaskNames.j0 k (bt312.2 == 0)) else (millhandlaw24_TaskNames.j0 k false)) else (millhandlaw24_TaskNames.j0 k false)) else (millhandlaw24_TaskNames.j0 k false)) else (millhandlaw24_TaskNames.j0 k false)) else (millhandlaw24_TaskNames.j0 k false)))))))
def millhandlaw24_TaskNames.T7 : Bool × List (List Nat × List Nat) := (true, [([], []), ([], []), ([0, 1, 0], [0, 1]), ([2], [2]), ([3], [3]), ([3], [3]), ([], []), ([6, 4, 2, 0, 1, 2, 3, 4, 6], [4, 6]), ([5, 7, 0, 1, 2, 3, 4, 5, 6, 7], [5])])
def millhandlaw24_TaskNames.B7 : List Nat := [0, 0, 3, 7, 15, 15, 0, 95, 255]
theorem millhandlaw24_TaskNames.tab7 : rtab .any (opsOf Try.f5 7) = millhandlaw24_TaskNames.T7 := by kernel_rfl
theorem millhandlaw24_TaskNames.bits7 : waitsOk millhandlaw24_TaskNames.T7.2 millhandlaw24_TaskNames.B7 = true := by kernel_rfl
def millhandlaw24_TaskNames.T9 : Bool × List (List Nat × List Nat) := (true, [([], []), ([], []), ([0, 1, 0], [0, 1]), ([2], [2]), ([3], [3]), ([3], [3]), ([], []), ([6, 4, 2, 0, 1, 2, 3, 4, 6], [4, 6]), ([5, 7, 0, 1, 2, 3, 4, 5, 6, 7], [5])])
def millhandlaw24_TaskNames.B9 : List Nat := [0, 0, 3, 7, 15, 15, 0, 95, 255]
theorem millhandlaw24_TaskNames.tab9 : rtab .any (opsOf Try.f5 9) = millhandlaw24_TaskNames.T9 := by kernel_rfl
theorem millhandlaw24_TaskNames.bits9 : waitsOk millhandlaw24_TaskNames.T9.2 millhandlaw24_TaskNames.B9 = true := by kernel_rfl
def millhandlaw24_TaskNames.T10 : Bool × List (List Nat × List Nat) := (true, [([], []), ([], []), ([0, 1, 0], [0, 1]), ([2], [2]), ([3], [3]), ([3], [3]), ([], []), ([6, 4, 2, 0, 1, 2, 3, 4, 6], [4, 6]), ([5, 7, 0, 1, 2, 3, 4, 5, 6, 7], [5])])
def millhandlaw24_TaskNames.B10 : List Nat := [0, 0, 3, 7, 15, 15, 0, 95, 255]
theorem millhandlaw24_TaskNames.tab10 : rtab .any (opsOf Try.f5 10) = millhandlaw24_TaskNames.T10 := by kernel_rfl
theorem millhandlaw24_TaskNames.bits10 : waitsOk millhandlaw24_TaskNames.T10.2 millhandlaw24_TaskNames.B10 = true := by kernel_rfl
def millhandlaw24_TaskNames.T11 : Bool × List (List Nat × List Nat) := (true, [([], []), ([], []), ([0, 1, 0], [0, 1]), ([2], [2]), ([3], [3]), ([3], [3]), ([], []), ([6, 4, 2, 0, 1, 2, 3, 4, 6], [4, 6]), ([5, 7, 0, 1, 2, 3, 4, 5, 6, 7], [5])])
def millhandlaw24_TaskNames.B11 : List Nat := [0, 0, 3, 7, 15, 15, 0, 95, 255]
theorem millhandlaw24_TaskNames.tab11 : rtab .any (opsOf Try.f5 11) = millhandlaw24_TaskNames.T11 := by kernel_rfl
theorem millhandlaw24_TaskNames.bits11 : waitsOk millhandlaw24_TaskNames.T11.2 millhandlaw24_TaskNames.B11 = true := by kernel_rfl
def millhandlaw24_TaskNames.T12 : Bool × List (List Nat × List Nat) := (true, [([], []), ([], []), ([0, 1, 0], [0, 1]), ([2], [2]), ([3], [3]), ([3], [3]), ([], []), ([6, 4, 2, 0, 1, 2, 3, 4, 6], [4, 6]), ([5, 7, 0, 1, 2, 3, 4, 5, 6, 7], [5])])
def millhandlaw24_TaskNames.B12 : List Nat := [0, 0, 3, 7, 15, 15, 0, 95, 255]
theorem millhandlaw24_TaskNames.tab12 : rtab .any (opsOf Try.f5 12) = millhandlaw24_TaskNames.T12 := by kernel_rfl
theorem millhandlaw24_TaskNames.bits12 : waitsOk millhandlaw24_TaskNames.T12.2 millhandlaw24_TaskNames.B12 = true := by kernel_rfl
def millhandlaw24_TaskNames.T13 : Bool × List (List Nat × List Nat) := (true, [([], []), ([], []), ([0, 1, 0], [0, 1]), ([2], [2]), ([3], [3]), ([3], [3]), ([], []), ([6, 4, 2, 0, 1, 2, 3, 4, 6], [4, 6]), ([5, 7, 0, 1, 2, 3, 4, 5, 6, 7], [5])])
def millhandlaw24_TaskNames.B13 : List Nat := [0, 0, 3, 7, 15, 15, 0, 95, 255]
theorem millhandlaw24_TaskNames.tab13 : rtab .any (opsOf Try.f5 13) = millhandlaw24_TaskNames.T13 := by kernel_rfl
theorem millhandlaw24_TaskNames.bits13 : waitsOk millhandlaw24_TaskNames.T13.2 millhandlaw24_TaskNames.B13 = true := by kernel_rfl
set_option maxHeartbeats 8000000 in
set_option maxRecDepth 100000 in
theorem millhandlaw24_TaskNames.calls (k : Nat)  (r : Bool) (w : World) (h : millhandlaw24_TaskNames.f k  = some r) :
  Calls Try.prog 5 #[] w fun e w' => e = .returned (.bool r) ∧ Below w.heap.size w w' := by
 have hu31 := Try.underlying31
 have hu24 := Try.underlying24
 have HB := Aside0.mk (Below.refl w.heap.size w)
 have H : ((millhandlaw24_node.f).bind fun bt293 => ((task_Pause.f k bt293.1 bt293.2.1 bt293.2.2 1).bind fun bt298 => ((millhandlaw24_node.f).bind fun bt300 => ((task_Pause.f k bt300.1 bt300.2.1 bt300.2.2 2).bind fun bt305 => ((millhandlaw24_node.f).bind fun bt307 => ((task_Pause.f k bt307.1 bt307.2.1 bt307.2.2 3).bind fun bt312 => (if bt298.1 = 5 then (if bt305.1 = 10 then (if bt312.1 = 20 then (if bt298.2 = 0 then (if bt305.2 = 0 then (millhandlaw24_TaskNames.j0 k (bt312.2 == 0)) else (millhandlaw24_TaskNames.j0 k false)) else (millhandlaw24_TaskNames.j0 k false)) else (millhandlaw24_TaskNames.j0 k false)) else (millhandlaw24_TaskNames.j0 k false)) else (millhandlaw24_TaskNames.j0 k false)))))))) = some r := h
 clear h
 replace H := Option.bind_eq_some_iff.mp H
 obtain ⟨⟨t293, t296, t297⟩, A10, H⟩ := H
 try dsimp only at H
 have A1 := Aside0.mk A10
 clear A10
 replace H := Option.bind_eq_some_iff.mp H
 obtain ⟨⟨t298, t299⟩, A20, H⟩ := H
 try dsimp only at H
 have A2 := Aside0.mk A20
 clear A20
 replace H := Option.bind_eq_some_iff.mp H
 obtain ⟨⟨t300, t303, t304⟩, A30, H⟩ := H
 try dsimp only at H
 have A3 := Aside0.mk A30
 clear A30
 replace H := Option.bind_eq_some_iff.mp H
 obtain ⟨⟨t305, t306⟩, A40, H⟩ := H
 try dsimp only at H
 have A4 := Aside0.mk A40
 clear A40
 replace H := Option.bind_eq_some_iff.mp H
 obtain ⟨⟨t307, t310, t311⟩, A50, H⟩ := H
 try dsimp only at H
 have A5 := Aside0.mk A50
 clear A50
 replace H := Option.bind_eq_some_iff.mp H
 obtain ⟨⟨t312, t313⟩, A60, H⟩ := H
 try dsimp only at H
 have A6 := Aside0.mk A60
 clear A60
 have HC7 := Aside0.mk H
 clear H
 go_enter Try.func5, Try.ntmps5
 go_upto_region 4 with (first | ((with_reducible refine gate_callee (f := 11) rfl ?_); refine goesL_ (some 30) rfl rfl Try.func11 (by kernel_rfl) rfl #[] rfl (by (try simp only [List.map_toArray, List.map_cons, List.map_nil]); first | done | rfl | (simp only [List.length_drop, List.length_take]; rfl)) ?_; (with_reducible refine (millhandlaw24_node.calls  t293 t296 t297 _ A1.out).mono ?_); rintro e w8 ⟨v294, rfl, ho0, hb⟩; refine ⟨_, rfl, ?_⟩; have HO295 := Aside0.mk (Kd.R_lower ho0 (below_size (hB_ HB.out))); replace HB := Aside0.mk (below_step (hB_ HB.out) hb); (try clear hb); (try clear hb2); (try clear hk); (try clear hi); (try clear ho0); obtain ⟨Ao9, co9, eo9⟩ := Kd.R_slice HO295.out; subst eo9) | ((with_reducible refine gate_callee (f := 8) rfl ?_); refine goesL_ (some 31) rfl rfl Try.func8 (by kernel_rfl) rfl #[.agg #[.slice Ao9 t293.length co9, .int .i64 t296, .int .i64 t297], .int .i64 1] rfl (by (try simp only [List.map_toArray, List.map_cons, List.map_nil]); first | done | rfl | (simp only [List.length_drop, List.length_take]; rfl)) ?_; (with_reducible refine (task_Pause.calls k _ _ t293 t296 t297 1 t298 t299 _ ?side1 ?side2 A2.out).mono ?_); (case side1 => repeat (first | exact (Kd.R_reads' HO295.out).2.2 | (with_reducible refine Kd.C_alloc ?_ _) | (with_reducible refine Kd.C_drewN ?_ _) | (with_reducible refine Kd.C_drew ?_))); (case side2 => exact (Kd.R_reads' HO295.out).2.1); rintro e w10 ⟨rfl, hb⟩; refine ⟨_, rfl, ?_⟩; replace HO295 := Aside0.mk (Kd.R_below (rr_ HO295.out) hb); replace HB := Aside0.mk (below_step (hB_ HB.out) hb); (try clear hb); (try clear hb2); (try clear hk); (try clear hi)) | ((with_reducible refine gate_callee (f := 11) rfl ?_); refine goesL_ (some 35) rfl rfl Try.func11 (by kernel_rfl) rfl #[] rfl (by (try simp only [List.map_toArray, List.map_cons, List.map_nil]); first | done | rfl | (simp only [List.length_drop, List.length_take]; rfl)) ?_; (with_reducible refine (millhandlaw24_node.calls  t300 t303 t304 _ A3.out).mono ?_); rintro e w11 ⟨v301, rfl, ho0, hb⟩; refine ⟨_, rfl, ?_⟩; have HO302 := Aside0.mk (Kd.R_lower (Kd.R_new' ho0 (Kd.R_lt (rr_ HO295.out))) (below_size (hB_ HB.out))); replace HO295 := Aside0.mk (Kd.R_elder' (rr_ HO295.out) (Kd.R_base ho0) hb); replace HB := Aside0.mk (below_step (hB_ HB.out) hb); (try clear hb); (try clear hb2); (try clear hk); (try clear hi); (try clear ho0); obtain ⟨Ao12, co12, eo12⟩ := Kd.R_slice HO302.out; subst eo12) | ((with_reducible refine gate_callee (f := 8) rfl ?_); refine goesL_ (some 36) rfl rfl Try.func8 (by kernel_rfl) rfl #[.agg #[.slice Ao12 t300.length co12, .int .i64 t303, .int .i64 t304], .int .i64 2] rfl (by (try simp only [List.map_toArray, List.map_cons, List.map_nil]); first | done | rfl | (simp only [List.length_drop, List.length_take]; rfl)) ?_; (with_reducible refine (task_Pause.calls k _ _ t300 t303 t304 2 t305 t306 _ ?side1 ?side2 A4.out).mono ?_); (case side1 => repeat (first | exact (Kd.R_reads' HO302.out).2.2 | (with_reducible refine Kd.C_alloc ?_ _) | (with_reducible refine Kd.C_drewN ?_ _) | (with_reducible refine Kd.C_drew ?_))); (case side2 => exact (Kd.R_reads' HO302.out).2.1); rintro e w13 ⟨rfl, hb⟩; refine ⟨_, rfl, ?_⟩; replace HO295 := Aside0.mk (Kd.R_below (rr_ HO295.out) hb); replace HO302 := Aside0.mk (Kd.R_below (rr_ HO302.out) hb); replace HB := Aside0.mk (below_step (hB_ HB.out) hb); (try clear hb); (try clear hb2); (try clear hk); (try clear hi)) | ((with_reducible refine gate_callee (f := 11) rfl ?_); refine goesL_ (some 40) rfl rfl Try.func11 (by kernel_rfl) rfl #[] rfl (by (try simp only [List.map_toArray, List.map_cons, List.map_nil]); first | done | rfl | (simp only [List.length_drop, List.length_take]; rfl)) ?_; (with_reducible refine (millhandlaw24_node.calls  t307 t310 t311 _ A5.out).mono ?_); rintro e w14 ⟨v308, rfl, ho0, hb⟩; refine ⟨_, rfl, ?_⟩; have HO309 := Aside0.mk (Kd.R_lower (Kd.R_new' (Kd.R_new' ho0 (Kd.R_lt (rr_ HO295.out))) (Kd.R_lt (rr_ HO302.out))) (below_size (hB_ HB.out))); replace HO295 := Aside0.mk (Kd.R_elder' (rr_ HO295.out) (Kd.R_base ho0) hb); replace HO302 := Aside0.mk (Kd.R_elder' (rr_ HO302.out) (Kd.R_base ho0) hb); replace HB := Aside0.mk (below_step (hB_ HB.out) hb); (try clear hb); (try clear hb2); (try clear hk); (try clear hi); (try clear ho0); obtain ⟨Ao15, co15, eo15⟩ := Kd.R_slice HO309.out; subst eo15) | ((with_reducible refine gate_callee (f := 8) rfl ?_); refine goesL_ (some 41) rfl rfl Try.func8 (by kernel_rfl) rfl #[.agg #[.slice Ao15 t307.length co15, .int .i64 t310, .int .i64 t311], .int .i64 3] rfl (by (try simp only [List.map_toArray, List.map_cons, List.map_nil]); first | done | rfl | (simp only [List.length_drop, List.length_take]; rfl)) ?_; (with_reducible refine (task_Pause.calls k _ _ t307 t310 t311 3 t312 t313 _ ?side1 ?side2 A6.out).mono ?_); (case side1 => repeat (first | exact (Kd.R_reads' HO309.out).2.2 | (with_reducible refine Kd.C_alloc ?_ _) | (with_reducible refine Kd.C_drewN ?_ _) | (with_reducible refine Kd.C_drew ?_))); (case side2 => exact (Kd.R_reads' HO309.out).2.1); rintro e w16 ⟨rfl, hb⟩; refine ⟨_, rfl, ?_⟩; replace HO295 := Aside0.mk (Kd.R_below (rr_ HO295.out) hb); replace HO302 := Aside0.mk (Kd.R_below (rr_ HO302.out) hb); replace HO309 := Aside0.mk (Kd.R_below (rr_ HO309.out) hb); replace HB := Aside0.mk (below_step (hB_ HB.out) hb); (try clear hb); (try clear hb2); (try clear hk); (try clear hi)))
 (try simp only [Act.put, sa_, s0_, s1_])
 go_cut [7] (fun v7 wc => ∃ (kq : Nat) (x7_6 : Bool), v7 = .bool x7_6 ∧ Aside0 (x7_6 = true) ∧ Aside0 (millhandlaw24_TaskNames.j0 kq x7_6 = some r) ∧ Aside0 (kq ≤ k) ∧ Aside0 (Below w.heap.size w wc))
 case first =>
  have H := HC7.out
  clear HC7
  by_cases c17 : t298 = 5
  ·
   rw [if_pos c17] at H
   have c17b0 : (t298 == 5) = true := beq_iff_eq.mpr c17
   have c17b1 : (t298 != 5) = false := bne_eq_false_iff_eq.mpr c17
   clear c17
   (first | rw [c17b0] | (simp only [i64_w, i32_w]; rw [c17b0]) | skip)
   by_cases c18 : t305 = 10
   ·
    rw [if_pos c18] at H
    have c18b0 : (t305 == 10) = true := beq_iff_eq.mpr c18
    have c18b1 : (t305 != 10) = false := bne_eq_false_iff_eq.mpr c18
    clear c18
    by_cases c19 : t312 = 20
    ·
     rw [if_pos c19] at H
     have c19b0 : (t312 == 20) = true := beq_iff_eq.mpr c19
     have c19b1 : (t312 != 20) = false := bne_eq_false_iff_eq.mpr c19
     clear c19
     by_cases c20 : t299 = 0
     ·
      rw [if_pos c20] at H
      have c20b0 : (t299 == 0) = true := beq_iff_eq.mpr c20
      have c20b1 : (t299 != 0) = false := bne_eq_false_iff_eq.mpr c20
      clear c20
      by_cases c21 : t306 = 0
      ·
       rw [if_pos c21] at H
       have c21b0 : (t306 == 0) = true := beq_iff_eq.mpr c21
       have c21b1 : (t306 != 0) = false := bne_eq_false_iff_eq.mpr c21
       clear c21
       have H' := Aside0.mk H
       clear H
       go_wp2
       go_meet
       case rel => exact ⟨_, ((t313 == 0)), (by first | rfl | (simp; done) | (simp [*]; done)), ⟨beq_iff_eq.mpr (p2_of (vPause (vNode A5.out) A6.out) (by decide +kernel))⟩, H', ⟨by first | omega | exact Nat.le_refl _⟩, ⟨hq_⟩⟩
      · exact absurd (p2_of (vPause (vNode A3.out) A4.out) (by decide +kernel)) c21
     · exact absurd (p2_of (vPause (vNode A1.out) A2.out) (by decide +kernel)) c20
    · exact absurd (p1_of (vPause (vNode A5.out) A6.out) (by decide +kernel)) c19
   · exact absurd (p1_of (vPause (vNode A3.out) A4.out) (by decide +kernel)) c18
  · exact absurd (p1_of (vPause (vNode A1.out) A2.out) (by decide +kernel)) c17
 case rest =>
  clear HC7
  try clear c1
  try clear c2
  try clear p2
  try clear c5
  try clear c8
  try clear c11
  try clear c17
  try clear c17b0
  try clear c17b1
  try clear c18
  try clear c18b0
  try clear c18b1
  try clear c19
  try clear c19b0
  try clear c19b1
  try clear c20
  try clear c20b0
  try clear c20b1
  try clear c21
  try clear c21b0
  try clear c21b1
  obtain ⟨kq, x7_6, rfl, HX_x7_6, HA, HJ6, HB⟩ := hcut
  cases kq with
  | zero => exact absurd HA.out (by simp [millhandlaw24_TaskNames.j0])
  | succ kj6 =>
   have H := HA.out
   clear HA
   simp only [millhandlaw24_TaskNames.j0] at H
   replace H := Option.bind_eq_some_iff.mp H
   obtain ⟨⟨t316, t319, t320⟩, A220, H⟩ := H
   try dsimp only at H
   have A22 := Aside0.mk A220
   clear A220
   replace H := Option.bind_eq_some_iff.mp H
   obtain ⟨⟨t321, t322, t323, t324, t325, t326⟩, A230, H⟩ := H
   try dsimp only at H
   have A23 := Aside0.mk A230
   clear A230
   replace H := Option.bind_eq_some_iff.mp H
   obtain ⟨⟨t328, t331, t332⟩, A240, H⟩ := H
   try dsimp only at H
   have A24 := Aside0.mk A240
   clear A240
   replace H := Option.bind_eq_some_iff.mp H
   obtain ⟨⟨t333, t334, t335, t336, t337, t338⟩, A250, H⟩ := H
   try dsimp only at H
   have A25 := Aside0.mk A250
   clear A250
   replace H := Option.bind_eq_some_iff.mp H
   obtain ⟨⟨t340, t343, t344⟩, A260, H⟩ := H
   try dsimp only at H
   have A26 := Aside0.mk A260
   clear A260
   replace H := Option.bind_eq_some_iff.mp H
   obtain ⟨⟨t345, t346, t347, t348, t349, t350⟩, A270, H⟩ := H
   try dsimp only at H
   have A27 := Aside0.mk A270
   clear A270
   replace H := Option.bind_eq_some_iff.mp H
   obtain ⟨⟨t352, t355, t356⟩, A280, H⟩ := H
   try dsimp only at H
   have A28 := Aside0.mk A280
   clear A280
   replace H := Option.bind_eq_some_iff.mp H
   obtain ⟨⟨t357, t358, t359, t360, t361, t362⟩, A290, H⟩ := H
   try dsimp only at H
   have A29 := Aside0.mk A290
   clear A290
   replace H := Option.bind_eq_some_iff.mp H
   obtain ⟨⟨t364, t367, t368⟩, A300, H⟩ := H
   try dsimp only at H
   have A30 := Aside0.mk A300
   clear A300
   replace H := Option.bind_eq_some_iff.mp H
   obtain ⟨⟨t369, t370, t371, t372, t373, t374⟩, A310, H⟩ := H
   try dsimp only at H
   have A31 := Aside0.mk A310
   clear A310
   replace H := Option.bind_eq_some_iff.mp H
   obtain ⟨⟨t376, t379, t380⟩, A320, H⟩ := H
   try dsimp only at H
   have A32 := Aside0.mk A320
   clear A320
   replace H := Option.bind_eq_some_iff.mp H
   obtain ⟨⟨t381, t382, t383, t384, t385, t386⟩, A330, H⟩ := H
   try dsimp only at H
   have A33 := Aside0.mk A330
   clear A330
   replace H := Option.bind_eq_some_iff.mp H
   obtain ⟨⟨t388, t391, t392⟩, A340, H⟩ := H
   try dsimp only at H
   have A34 := Aside0.mk A340
   clear A340
   replace H := Option.bind_eq_some_iff.mp H
   obtain ⟨⟨t393, t394, t395, t396, t397, t398⟩, A350, H⟩ := H
   try dsimp only at H
   have A35 := Aside0.mk A350
   clear A350
   have HC36 := Aside0.mk H
   clear H
   try go_wp2_with (first | ((with_reducible refine gate_dst (N := 8) rfl ?_); refine box_event ?hg (N := 8) ?hd (cs := #[.int .u8 0, .int .i64 0, .int .i64 0, .int .i64 0, .int .i64 0]) (t := 31) ?hr ?_; (case hd => rfl); (case hg => rfl); (case hr => first | (go_simp; done) | (go_simp; rfl)); intro gb314 hg w37 hbox hb; have BK314 := Aside0.mk (hbox); have GW314 := bz_ (hB_ HB.out) hg; have GE314 := bz_ (hB_ HB.out) hg; replace HB := Aside0.mk (below_step (hB_ HB.out) hb); clear hb hbox hg; have hcz38_0 : w37.cell? ⟨gb314, 0, none⟩ = some (.int .u8 0) := ck_ BK314 0; have hcz38_1 : w37.cell? ⟨gb314, 1, none⟩ = some (.int .i64 0) := ck_ BK314 1; have hcz38_2 : w37.cell? ⟨gb314, 2, none⟩ = some (.int .i64 0) := ck_ BK314 2; have hcz38_3 : w37.cell? ⟨gb314, 3, none⟩ = some (.int .i64 0) := ck_ BK314 3; have hcz38_4 : w37.cell? ⟨gb314, 4, none⟩ = some (.int .i64 0) := ck_ BK314 4; have hfz38_0 := blk_frozen BK314.out 0; have hfz38_1 := blk_frozen BK314.out 1; have hfz38_2 := blk_frozen BK314.out 2; have hfz38_3 := blk_frozen BK314.out 3; have hfz38_4 := blk_frozen BK314.out 4) | ((with_reducible refine gate_dst (N := 9) rfl ?_); refine box_event ?hg (N := 9) ?hd (cs := #[.int .u8 0, .int .i64 0, .int .i64 0, .int .i64 0, .int .i64 0]) (t := 31) ?hr ?_; (case hd => rfl); (case hg => rfl); (case hr => first | (go_simp; done) | (go_simp; rfl)); intro gb315 hg w39 hbox hb; have BK315 := Aside0.mk (hbox); have GW315 := bz_ (hG_ HB.out GE314.out) hg; have GE315 := bz_ (hG_ HB.out GE314.out) hg; replace HB := Aside0.mk (below_step (hG_ HB.out GE314.out) hb); have NB314_315 := Aside0.mk ((by rw [hg]; exact Nat.ne_of_lt (blk_lt (g := gb314) (o := .cells #[.int .u8 2, .int .i64 1, .int .i64 30, .int .i64 4, .int .i64 0] 31 (0, 0)) (by (with_reducible repeat (first | refine blk_drewN ?_ _ | refine blk_drew ?_ | refine blk_alloc ?_ _)); refine blk_put (cs := #[.int .u8 2, .int .i64 1, .int .i64 30, .int .i64 4, .int .i64 0]) ?_ 4 _ rfl; (with_reducible repeat (first | refine blk_drewN ?_ _ | refine blk_drew ?_ | refine blk_alloc ?_ _)); refine blk_put (cs := #[.int .u8 2, .int .i64 1, .int .i64 30, .int .i64 0, .int .i64 0]) ?_ 3 _ rfl; (with_reducible repeat (first | refine blk_drewN ?_ _ | refine blk_drew ?_ | refine blk_alloc ?_ _)); refine blk_put (cs := #[.int .u8 2, .int .i64 1, .int .i64 0, .int .i64 0, .int .i64 0]) ?_ 2 _ rfl; (with_reducible repeat (first | refine blk_drewN ?_ _ | refine blk_drew ?_ | refine blk_alloc ?_ _)); refine blk_put (cs := #[.int .u8 2, .int .i64 0, .int .i64 0, .int .i64 0, .int .i64 0]) ?_ 1 _ rfl; (with_reducible repeat (first | refine blk_drewN ?_ _ | refine blk_drew ?_ | refine blk_alloc ?_ _)); refine blk_put (cs := #[.int .u8 0, .int .i64 0, .int .i64 0, .int .i64 0, .int .i64 0]) ?_ 0 _ rfl; (with_reducible repeat (first | refine blk_drewN ?_ _ | refine blk_drew ?_ | refine blk_alloc ?_ _)); exact BK314.out)) : gb314 ≠ gb315)); have NB315_314 := Aside0.mk ((by rw [hg]; exact Nat.ne_of_gt (blk_lt (g := gb314) (o := .cells #[.int .u8 2, .int .i64 1, .int .i64 30, .int .i64 4, .int .i64 0] 31 (0, 0)) (by (with_reducible repeat (first | refine blk_drewN ?_ _ | refine blk_drew ?_ | refine blk_alloc ?_ _)); refine blk_put (cs := #[.int .u8 2, .int .i64 1, .int .i64 30, .int .i64 4, .int .i64 0]) ?_ 4 _ rfl; (with_reducible repeat (first | refine blk_drewN ?_ _ | refine blk_drew ?_ | refine blk_alloc ?_ _)); refine blk_put (cs := #[.int .u8 2, .int .i64 1, .int .i64 30, .int .i64 0, .int .i64 0]) ?_ 3 _ rfl; (with_reducible repeat (first | refine blk_drewN ?_ _ | refine blk_drew ?_ | refine blk_alloc ?_ _)); refine blk_put (cs := #[.int .u8 2, .int .i64 1, .int .i64 0, .int .i64 0, .int .i64 0]) ?_ 2 _ rfl; (with_reducible repeat (first | refine blk_drewN ?_ _ | refine blk_drew ?_ | refine blk_alloc ?_ _)); refine blk_put (cs := #[.int .u8 2, .int .i64 0, .int .i64 0, .int .i64 0, .int .i64 0]) ?_ 1 _ rfl; (with_reducible repeat (first | refine blk_drewN ?_ _ | refine blk_drew ?_ | refine blk_alloc ?_ _)); refine blk_put (cs := #[.int .u8 0, .int .i64 0, .int .i64 0, .int .i64 0, .int .i64 0]) ?_ 0 _ rfl; (with_reducible repeat (first | refine blk_drewN ?_ _ | refine blk_drew ?_ | refine blk_alloc ?_ _)); exact BK314.out)) : gb315 ≠ gb314)); replace BK314 := Aside0.mk (blk_below (g := gb314) (o := .cells #[.int .u8 2, .int .i64 1, .int .i64 30, .int .i64 4, .int .i64 0] 31 (0, 0)) (by (with_reducible repeat (first | refine blk_drewN ?_ _ | refine blk_drew ?_ | refine blk_alloc ?_ _)); refine blk_put (cs := #[.int .u8 2, .int .i64 1, .int .i64 30, .int .i64 4, .int .i64 0]) ?_ 4 _ rfl; (with_reducible repeat (first | refine blk_drewN ?_ _ | refine blk_drew ?_ | refine blk_alloc ?_ _)); refine blk_put (cs := #[.int .u8 2, .int .i64 1, .int .i64 30, .int .i64 0, .int .i64 0]) ?_ 3 _ rfl; (with_reducible repeat (first | refine blk_drewN ?_ _ | refine blk_drew ?_ | refine blk_alloc ?_ _)); refine blk_put (cs := #[.int .u8 2, .int .i64 1, .int .i64 0, .int .i64 0, .int .i64 0]) ?_ 2 _ rfl; (with_reducible repeat (first | refine blk_drewN ?_ _ | refine blk_drew ?_ | refine blk_alloc ?_ _)); refine blk_put (cs := #[.int .u8 2, .int .i64 0, .int .i64 0, .int .i64 0, .int .i64 0]) ?_ 1 _ rfl; (with_reducible repeat (first | refine blk_drewN ?_ _ | refine blk_drew ?_ | refine blk_alloc ?_ _)); refine blk_put (cs := #[.int .u8 0, .int .i64 0, .int .i64 0, .int .i64 0, .int .i64 0]) ?_ 0 _ rfl; (with_reducible repeat (first | refine blk_drewN ?_ _ | refine blk_drew ?_ | refine blk_alloc ?_ _)); exact BK314.out) hb); clear hb hbox hg; have hnb40 := NB315_314.out; have hnc40 := NB314_315.out; have hcz41_0 : w39.cell? ⟨gb315, 0, none⟩ = some (.int .u8 0) := ck_ BK315 0; have hcz41_1 : w39.cell? ⟨gb315, 1, none⟩ = some (.int .i64 0) := ck_ BK315 1; have hcz41_2 : w39.cell? ⟨gb315, 2, none⟩ = some (.int .i64 0) := ck_ BK315 2; have hcz41_3 : w39.cell? ⟨gb315, 3, none⟩ = some (.int .i64 0) := ck_ BK315 3; have hcz41_4 : w39.cell? ⟨gb315, 4, none⟩ = some (.int .i64 0) := ck_ BK315 4; have hfz41_0 := blk_frozen BK315.out 0; have hfz41_1 := blk_frozen BK315.out 1; have hfz41_2 := blk_frozen BK315.out 2; have hfz41_3 := blk_frozen BK315.out 3; have hfz41_4 := blk_frozen BK315.out 4))
   have n0_ : Aside0 ((((((w39.setCell ⟨gb315, 0, none⟩ (.int .u8 3)).setCell ⟨gb315, 1, none⟩ (.int .i64 1)).setCell ⟨gb315, 2, none⟩ (.int .i64 17)).setCell ⟨gb315, 3, none⟩ (.int .i64 0)).setCell ⟨gb315, 4, none⟩ (.int .i64 0)).heap[gb314]? = some (.cells #[.int .u8 2, .int .i64 1, .int .i64 30, .int .i64 4, .int .i64 0] 31 (0, 0))) := ⟨bf_⟩
   have n1_ : Aside0 ((((((w39.setCell ⟨gb315, 0, none⟩ (.int .u8 3)).setCell ⟨gb315, 1, none⟩ (.int .i64 1)).setCell ⟨gb315, 2, none⟩ (.int .i64 17)).setCell ⟨gb315, 3, none⟩ (.int .i64 0)).setCell ⟨gb315, 4, none⟩ (.int .i64 0)).heap[gb315]? = some (.cells #[.int .u8 3, .int .i64 1, .int .i64 17, .int .i64 0, .int .i64 0] 31 (0, 0))) := ⟨by (with_reducible repeat (first | refine blk_drewN ?_ _ | refine blk_drew ?_ | refine blk_alloc ?_ _)); refine blk_put (cs := #[.int .u8 3, .int .i64 1, .int .i64 17, .int .i64 0, .int .i64 0]) ?_ 4 _ rfl; (with_reducible repeat (first | refine blk_drewN ?_ _ | refine blk_drew ?_ | refine blk_alloc ?_ _)); refine blk_put (cs := #[.int .u8 3, .int .i64 1, .int .i64 17, .int .i64 0, .int .i64 0]) ?_ 3 _ rfl; (with_reducible repeat (first | refine blk_drewN ?_ _ | refine blk_drew ?_ | refine blk_alloc ?_ _)); refine blk_put (cs := #[.int .u8 3, .int .i64 1, .int .i64 0, .int .i64 0, .int .i64 0]) ?_ 2 _ rfl; (with_reducible repeat (first | refine blk_drewN ?_ _ | refine blk_drew ?_ | refine blk_alloc ?_ _)); refine blk_put (cs := #[.int .u8 3, .int .i64 0, .int .i64 0, .int .i64 0, .int .i64 0]) ?_ 1 _ rfl; (with_reducible repeat (first | refine blk_drewN ?_ _ | refine blk_drew ?_ | refine blk_alloc ?_ _)); refine blk_put (cs := #[.int .u8 0, .int .i64 0, .int .i64 0, .int .i64 0, .int .i64 0]) ?_ 0 _ rfl; (with_reducible repeat (first | refine blk_drewN ?_ _ | refine blk_drew ?_ | refine blk_alloc ?_ _)); exact BK315.out⟩
   have n2_ : Aside0 (Below w.heap.size w (((((w39.setCell ⟨gb315, 0, none⟩ (.int .u8 3)).setCell ⟨gb315, 1, none⟩ (.int .i64 1)).setCell ⟨gb315, 2, none⟩ (.int .i64 17)).setCell ⟨gb315, 3, none⟩ (.int .i64 0)).setCell ⟨gb315, 4, none⟩ (.int .i64 0))) := ⟨hq_⟩
   (try clear BK314)
   (try clear BK315)
   (try clear HB)
   generalize (((((w39.setCell ⟨gb315, 0, none⟩ (.int .u8 3)).setCell ⟨gb315, 1, none⟩ (.int .i64 1)).setCell ⟨gb315, 2, none⟩ (.int .i64 17)).setCell ⟨gb315, 3, none⟩ (.int .i64 0)).setCell ⟨gb315, 4, none⟩ (.int .i64 0)) = w42 at n0_ n1_ n2_ ⊢
   have BK314 := n0_
   have BK315 := n1_
   have HB := n2_
   clear n0_ n1_ n2_
   replace BK314 := Aside0.mk (blk_drew BK314.out)
   replace BK315 := Aside0.mk (blk_drew BK315.out)
   replace HB := Aside0.mk (below_drew1 HB.out)
   refine start_ (n := 9) (S := fun w' => w'.cell? ⟨gb314, 0, none⟩ = some (.int .u8 2) ∧ w'.cell? ⟨gb314, 1, none⟩ = some (.int .i64 1) ∧ w'.cell? ⟨gb314, 2, none⟩ = some (.int .i64 30) ∧ w'.cell? ⟨gb314, 3, none⟩ = some (.int .i64 4) ∧ w'.cell? ⟨gb314, 4, none⟩ = some (.int .i64 0)) (ds := []) (b_ 9 0) (by kernel_rfl) rfl rfl ⟨ck_ BK314 0, ck_ BK314 1, ck_ BK314 2, ck_ BK314 3, ck_ BK314 4⟩ (fun hHeld => ?_); refine with_tabW millhandlaw24_TaskNames.tab7 millhandlaw24_TaskNames.bits7 (fun HT_ HW_ => ?_)
   generalize w42.drew = w43 at BK314 BK315 HB hHeld ⊢
   refine tA_ 1 70 ?_ (b_ 9 2) (take_ofW HT_.out HW_.out (by kernel_rfl)) rfl rfl (fun _ _ _ h => h) (by rfl) ?_ hHeld ?_ ?_ ?_; rotate_left
   · rintro w' ⟨s0, s1, s2, s3, s4⟩; go_simp; with_reducible rfl
   rotate_left
   · simp only [Act.put, sa_, s0_, s1_, i64_w, i32_w]; rfl
   refine join_ (σ := Value × Nat) 2 (b_ 9 127) (fun s_ => [(69, .agg #[s_.1, .int .i64 t319, .int .i64 t320]), (71, .tuple #[.agg #[.int .u8 t321, .int .i64 t322, .int .i64 t323, .int .i64 t324, .int .i64 t325], .int .i64 t326]), (10, .pointer (some ⟨s_.2, 0, none⟩)), (68, .tuple #[.agg #[.int .u8 t321, .int .i64 t322, .int .i64 t323, .int .i64 t324, .int .i64 t325], .int .i64 t326]), (72, .agg #[.int .u8 t321, .int .i64 t322, .int .i64 t323, .int .i64 t324, .int .i64 t325]), (73, .int .i64 t326)]) (fun s_ w' => (w'.cell? ⟨gb314, 0, none⟩ = some (.int .u8 2) ∧ w'.cell? ⟨gb314, 1, none⟩ = some (.int .i64 1) ∧ w'.cell? ⟨gb314, 2, none⟩ = some (.int .i64 30) ∧ w'.cell? ⟨gb314, 3, none⟩ = some (.int .i64 4) ∧ w'.cell? ⟨gb314, 4, none⟩ = some (.int .i64 0)) ∧ (Kd.R (Kd.int .i64) 3 w' w.heap.size (fun _ => True) s_.1 t316) ∧ (w'.heap[gb314]? = some (.cells #[.int .u8 2, .int .i64 1, .int .i64 30, .int .i64 4, .int .i64 0] 31 (0, 0))) ∧ (w'.heap[gb315]? = some (.cells #[.int .u8 3, .int .i64 1, .int .i64 17, .int .i64 0, .int .i64 0] 31 (0, 0))) ∧ (w'.heap[s_.2]? = some (.cells #[.int .u8 0, .int .i64 0, .int .i64 0, .int .i64 0, .int .i64 0] 31 (0, 0))) ∧ (w.heap.size ≤ s_.2) ∧ (w.heap.size ≤ s_.2) ∧ (gb314 ≠ s_.2) ∧ (s_.2 ≠ gb314) ∧ (gb315 ≠ s_.2) ∧ (s_.2 ≠ gb315) ∧ (Below w.heap.size w w')) ?_ ?_
   rotate_left
   ·
    intro hCont
    refine two_ (i := 0) (j := 6) (Ni := some 69) (Nj := some 10) (b_ 9 3) (b_ 9 66) rfl rfl rfl rfl (two_of HT_.out (by kernel_rfl)) (by decide) (by decide) (fun K hK => ?_) (fun K hK => ?_)
    ·
     skip
     refine goes_ Try.func11 (by kernel_rfl) rfl #[] (by rfl) rfl rfl (by (try simp only [List.map_toArray, List.map_cons, List.map_nil]); first | done | rfl | (simp only [List.length_drop, List.length_take]; rfl)) ?_
     with_reducible refine (millhandlaw24_node.calls  t316 t319 t320 _ A22.out).mono ?_
     rintro e w44 ⟨v317, rfl, ho0, hb⟩
     refine ⟨_, rfl, ?_⟩
     have HO318 := Aside0.mk (Kd.R_lower ho0 (below_size (hB_ HB.out)))
     replace BK314 := bs_ BK314 hb
     replace BK315 := bs_ BK315 hb
     replace HB := Aside0.mk (below_step (hB_ HB.out) hb)
     (try clear hb)
     (try clear hb2)
     (try clear hk)
     (try clear hi)
     (try clear ho0)
     obtain ⟨Ao45, co45, eo45⟩ := Kd.R_slice HO318.out
     (first | subst eo45 | (injection eo45 with f1_ f2_ f3_; have f4_ := f1_.symm; have f5_ := f3_.symm; clear f1_ f2_ f3_; subst f4_; subst f5_))
     refine hK.out _ _ ⟨ck_ BK314 0, ck_ BK314 1, ck_ BK314 2, ck_ BK314 3, ck_ BK314 4⟩ (fun hHeld => ?_)
     clear hK K
     refine norm_ (a' := ?_) ?_ ?_
     rotate_left
     ·
      show Act.put _ (some 69) _ = _
      simp only [Act.put, sa_, s0_, s1_, i64_w, i32_w]
      rfl
     refine two_ (i := 2) (j := 6) (Ni := some 71) (Nj := some 10) (b_ 9 7) (b_ 9 67) rfl rfl rfl rfl (two_of HT_.out (by kernel_rfl)) (by decide) (by decide) (fun K hK => ?_) (fun K hK => ?_)
     ·
      skip
      refine goes_ Try.func12 (by kernel_rfl) rfl #[.agg #[.slice Ao45 t316.length co45, .int .i64 t319, .int .i64 t320], .agg #[.int .u8 2, .int .i64 1, .int .i64 30, .int .i64 4, .int .i64 0], .int .i64 5] (by rfl) rfl rfl (by (try simp only [List.map_toArray, List.map_cons, List.map_nil]); first | done | rfl | (simp only [List.length_drop, List.length_take]; rfl)) ?_
      with_reducible refine (task_Done.calls kj6 _ _ t316 t319 t320 2 1 30 4 0 5 t321 t322 t323 t324 t325 t326 _ ?side1 ?side2 A23.out).mono ?_
      (case side1 => repeat (first | exact (Kd.R_reads' HO318.out).2.2 | (with_reducible refine Kd.C_alloc ?_ _) | (with_reducible refine Kd.C_drewN ?_ _) | (with_reducible refine Kd.C_drew ?_)))
      (case side2 => exact (Kd.R_reads' HO318.out).2.1)
      rintro e w46 ⟨rfl, hb⟩
      refine ⟨_, rfl, ?_⟩
      replace HO318 := Aside0.mk (Kd.R_below (rr_ HO318.out) hb)
      replace BK314 := bs_ BK314 hb
      replace BK315 := bs_ BK315 hb
      replace HB := Aside0.mk (below_step (hB_ HB.out) hb)
      (try clear hb)
      (try clear hb2)
      (try clear hk)
      (try clear hi)
      refine hK.out _ _ ⟨ck_ BK314 0, ck_ BK314 1, ck_ BK314 2, ck_ BK314 3, ck_ BK314 4⟩ (fun hHeld => ?_)
      clear hK K
      refine norm_ (a' := ?_) ?_ ?_
      rotate_left
      ·
       show Act.put _ (some 71) _ = _
       simp only [Act.put, sa_, s0_, s1_, i64_w, i32_w]
       rfl
      refine pA_ 3 68 ?_ (b_ 9 15) (any_of HT_.out (by kernel_rfl)) rfl rfl (fun _ _ _ h => h) (by rfl) ?_ ?_ ?_ ?_; rotate_left
      · intro w'; go_simp; with_reducible rfl
      rotate_left
      · simp only [Act.put, sa_, s0_, s1_, i64_w, i32_w]; rfl
      refine pA_ 4 72 ?_ (b_ 9 31) (any_of HT_.out (by kernel_rfl)) rfl rfl (fun _ _ _ h => h) (by rfl) ?_ ?_ ?_ ?_; rotate_left
      · intro w'; go_simp; with_reducible rfl
      rotate_left
      · simp only [Act.put, sa_, s0_, s1_, i64_w, i32_w]; rfl
      refine pA_ 5 73 ?_ (b_ 9 63) (any_of HT_.out (by kernel_rfl)) rfl rfl (fun _ _ _ h => h) (by rfl) ?_ ?_ ?_ ?_; rotate_left
      · intro w'; go_simp; with_reducible rfl
      rotate_left
      · simp only [Act.put, sa_, s0_, s1_, i64_w, i32_w]; rfl
      refine one_ (i := 6) (N := some 10) (b_ 9 127) rfl rfl (one_of HT_.out (by kernel_rfl)) (by decide) (fun K hK => ?_)
      refine box_step ?hg (N := 10) ?hd (cs := #[.int .u8 0, .int .i64 0, .int .i64 0, .int .i64 0, .int .i64 0]) (t := 31) ?hr ?_; (case hd => rfl); (case hg => rfl); (case hr => first | (go_simp; done) | (go_simp; rfl))
      intro gb327 hg w47 hbox hb
      replace HO318 := Aside0.mk (Kd.R_below (rr_ HO318.out) hb)
      have BK327 := Aside0.mk (hbox)
      have GW327 := bz_ (hB_ HB.out) hg
      have GE327 := bz_ (hB_ HB.out) hg
      replace HB := Aside0.mk (below_step (hB_ HB.out) hb)
      have NB314_327 := bn_ BK314 hg
      have NB327_314 := bm_ BK314 hg
      replace BK314 := bs_ BK314 hb
      have NB315_327 := bn_ BK315 hg
      have NB327_315 := bm_ BK315 hg
      replace BK315 := bs_ BK315 hb
      clear hb hbox hg
      refine hK.out _ _ ⟨ck_ BK314 0, ck_ BK314 1, ck_ BK314 2, ck_ BK314 3, ck_ BK314 4⟩ (fun hHeld => ?_)
      clear hK K
      refine norm_ (a' := ?_) ?_ ?_
      rotate_left
      ·
       show Act.put _ (some 10) _ = _
       simp only [Act.put, sa_, s0_, s1_, i64_w, i32_w]
       rfl
      exact norm_ (by simp only [putAll, Act.put, sa_, s0_, s1_]) (hCont (.slice Ao45 t316.length co45, gb327) _ ⟨hHeld, (rr_ HO318.out), bq_, bq_, bq_, GW327.out, GE327.out, NB314_327.out, NB327_314.out, NB315_327.out, NB327_315.out, hq_⟩)
     ·
      skip
      refine box_step ?hg (N := 10) ?hd (cs := #[.int .u8 0, .int .i64 0, .int .i64 0, .int .i64 0, .int .i64 0]) (t := 31) ?hr ?_; (case hd => rfl); (case hg => rfl); (case hr => first | (go_simp; done) | (go_simp; rfl))
      intro gb327 hg w45 hbox hb
      replace HO318 := Aside0.mk (Kd.R_below (rr_ HO318.out) hb)
      have BK327 := Aside0.mk (hbox)
      have GW327 := bz_ (hB_ HB.out) hg
      have GE327 := bz_ (hB_ HB.out) hg
      replace HB := Aside0.mk (below_step (hB_ HB.out) hb)
      have NB314_327 := bn_ BK314 hg
      have NB327_314 := bm_ BK314 hg
      replace BK314 := bs_ BK314 hb
      have NB315_327 := bn_ BK315 hg
      have NB327_315 := bm_ BK315 hg
      replace BK315 := bs_ BK315 hb
      clear hb hbox hg
      obtain ⟨Ao46, co46, eo46⟩ := Kd.R_slice HO318.out
      (first | subst eo46 | (injection eo46 with f1_ f2_ f3_; have f4_ := f1_.symm; have f5_ := f3_.symm; clear f1_ f2_ f3_; subst f4_; subst f5_))
      refine hK.out _ _ ⟨ck_ BK314 0, ck_ BK314 1, ck_ BK314 2, ck_ BK314 3, ck_ BK314 4⟩ (fun hHeld => ?_)
      clear hK K
      refine norm_ (a' := ?_) ?_ ?_
      rotate_left
      ·
       show Act.put _ (some 10) _ = _
       simp only [Act.put, sa_, s0_, s1_, i64_w, i32_w]
       rfl
      refine one_ (i := 2) (N := some 71) (b_ 9 71) rfl rfl (one_of HT_.out (by kernel_rfl)) (by decide) (fun K hK => ?_)
      refine goes_ Try.func12 (by kernel_rfl) rfl #[.agg #[.slice Ao46 t316.length co46, .int .i64 t319, .int .i64 t320], .agg #[.int .u8 2, .int .i64 1, .int .i64 30, .int .i64 4, .int .i64 0], .int .i64 5] (by rfl) rfl rfl (by (try simp only [List.map_toArray, List.map_cons, List.map_nil]); first | done | rfl | (simp only [List.length_drop, List.length_take]; rfl)) ?_
      with_reducible refine (task_Done.calls kj6 _ _ t316 t319 t320 2 1 30 4 0 5 t321 t322 t323 t324 t325 t326 _ ?side1 ?side2 A23.out).mono ?_
      (case side1 => repeat (first | exact (Kd.R_reads' HO318.out).2.2 | (with_reducible refine Kd.C_alloc ?_ _) | (with_reducible refine Kd.C_drewN ?_ _) | (with_reducible refine Kd.C_drew ?_)))
      (case side2 => exact (Kd.R_reads' HO318.out).2.1)
      rintro e w47 ⟨rfl, hb⟩
      refine ⟨_, rfl, ?_⟩
      replace HO318 := Aside0.mk (Kd.R_below (rr_ HO318.out) hb)
      replace BK314 := bs_ BK314 hb
      replace BK315 := bs_ BK315 hb
      replace BK327 := bs_ BK327 hb
      replace HB := Aside0.mk (below_step (hB_ HB.out) hb)
      (try clear hb)
      (try clear hb2)
      (try clear hk)
      (try clear hi)
      refine hK.out _ _ ⟨ck_ BK314 0, ck_ BK314 1, ck_ BK314 2, ck_ BK314 3, ck_ BK314 4⟩ (fun hHeld => ?_)
      clear hK K
      refine norm_ (a' := ?_) ?_ ?_
      rotate_left
      ·
       show Act.put _ (some 71) _ = _
       simp only [Act.put, sa_, s0_, s1_, i64_w, i32_w]
       rfl
      refine pA_ 3 68 ?_ (b_ 9 79) (any_of HT_.out (by kernel_rfl)) rfl rfl (fun _ _ _ h => h) (by rfl) ?_ ?_ ?_ ?_; rotate_left
      · intro w'; go_simp; with_reducible rfl
      rotate_left
      · simp only [Act.put, sa_, s0_, s1_, i64_w, i32_w]; rfl
      refine pA_ 4 72 ?_ (b_ 9 95) (any_of HT_.out (by kernel_rfl)) rfl rfl (fun _ _ _ h => h) (by rfl) ?_ ?_ ?_ ?_; rotate_left
      · intro w'; go_simp; with_reducible rfl
      rotate_left
      · simp only [Act.put, sa_, s0_, s1_, i64_w, i32_w]; rfl
      refine pA_ 5 73 ?_ (b_ 9 127) (any_of HT_.out (by kernel_rfl)) rfl rfl (fun _ _ _ h => h) (by rfl) ?_ ?_ ?_ ?_; rotate_left
      · intro w'; go_simp; with_reducible rfl
      rotate_left
      · simp only [Act.put, sa_, s0_, s1_, i64_w, i32_w]; rfl
      exact norm_ (by simp only [putAll, Act.put, sa_, s0_, s1_]) (hCont (.slice Ao46 t316.length co46, gb327) _ ⟨hHeld, (rr_ HO318.out), bq_, bq_, bq_, GW327.out, GE327.out, NB314_327.out, NB327_314.out, NB315_327.out, NB327_315.out, hq_⟩)
    ·
     skip
     refine box_step ?hg (N := 10) ?hd (cs := #[.int .u8 0, .int .i64 0, .int .i64 0, .int .i64 0, .int .i64 0]) (t := 31) ?hr ?_; (case hd => rfl); (case hg => rfl); (case hr => first | (go_simp; done) | (go_simp; rfl))
     intro gb327 hg w44 hbox hb
     have BK327 := Aside0.mk (hbox)
     have GW327 := bz_ (hB_ HB.out) hg
     have GE327 := bz_ (hB_ HB.out) hg
     replace HB := Aside0.mk (below_step (hB_ HB.out) hb)
     have NB314_327 := bn_ BK314 hg
     have NB327_314 := bm_ BK314 hg
     replace BK314 := bs_ BK314 hb
     have NB315_327 := bn_ BK315 hg
     have NB327_315 := bm_ BK315 hg
     replace BK315 := bs_ BK315 hb
     clear hb hbox hg
     refine hK.out _ _ ⟨ck_ BK314 0, ck_ BK314 1, ck_ BK314 2, ck_ BK314 3, ck_ BK314 4⟩ (fun hHeld => ?_)
     clear hK K
     refine norm_ (a' := ?_) ?_ ?_
     rotate_left
     ·
      show Act.put _ (some 10) _ = _
      simp only [Act.put, sa_, s0_, s1_, i64_w, i32_w]
      rfl
     refine one_ (i := 0) (N := some 69) (b_ 9 67) rfl rfl (one_of HT_.out (by kernel_rfl)) (by decide) (fun K hK => ?_)
     refine goes_ Try.func11 (by kernel_rfl) rfl #[] (by rfl) rfl rfl (by (try simp only [List.map_toArray, List.map_cons, List.map_nil]); first | done | rfl | (simp only [List.length_drop, List.length_take]; rfl)) ?_
     with_reducible refine (millhandlaw24_node.calls  t316 t319 t320 _ A22.out).mono ?_
     rintro e w45 ⟨v317, rfl, ho0, hb⟩
     refine ⟨_, rfl, ?_⟩
     have HO318 := Aside0.mk (Kd.R_lower ho0 (below_size (hB_ HB.out)))
     replace BK314 := bs_ BK314 hb
     replace BK315 := bs_ BK315 hb
     replace BK327 := bs_ BK327 hb
     replace HB := Aside0.mk (below_step (hB_ HB.out) hb)
     (try clear hb)
     (try clear hb2)
     (try clear hk)
     (try clear hi)
     (try clear ho0)
     obtain ⟨Ao46, co46, eo46⟩ := Kd.R_slice HO318.out
     (first | subst eo46 | (injection eo46 with f1_ f2_ f3_; have f4_ := f1_.symm; have f5_ := f3_.symm; clear f1_ f2_ f3_; subst f4_; subst f5_))
     refine hK.out _ _ ⟨ck_ BK314 0, ck_ BK314 1, ck_ BK314 2, ck_ BK314 3, ck_ BK314 4⟩ (fun hHeld => ?_)
     clear hK K
     refine norm_ (a' := ?_) ?_ ?_
     rotate_left
     ·
      show Act.put _ (some 69) _ = _
      simp only [Act.put, sa_, s0_, s1_, i64_w, i32_w]
      rfl
     refine one_ (i := 2) (N := some 71) (b_ 9 71) rfl rfl (one_of HT_.out (by kernel_rfl)) (by decide) (fun K hK => ?_)
     refine goes_ Try.func12 (by kernel_rfl) rfl #[.agg #[.slice Ao46 t316.length co46, .int .i64 t319, .int .i64 t320], .agg #[.int .u8 2, .int .i64 1, .int .i64 30, .int .i64 4, .int .i64 0], .int .i64 5] (by rfl) rfl rfl (by (try simp only [List.map_toArray, List.map_cons, List.map_nil]); first | done | rfl | (simp only [List.length_drop, List.length_take]; rfl)) ?_
     with_reducible refine (task_Done.calls kj6 _ _ t316 t319 t320 2 1 30 4 0 5 t321 t322 t323 t324 t325 t326 _ ?side1 ?side2 A23.out).mono ?_
     (case side1 => repeat (first | exact (Kd.R_reads' HO318.out).2.2 | (with_reducible refine Kd.C_alloc ?_ _) | (with_reducible refine Kd.C_drewN ?_ _) | (with_reducible refine Kd.C_drew ?_)))
     (case side2 => exact (Kd.R_reads' HO318.out).2.1)
     rintro e w47 ⟨rfl, hb⟩
     refine ⟨_, rfl, ?_⟩
     replace HO318 := Aside0.mk (Kd.R_below (rr_ HO318.out) hb)
     replace BK314 := bs_ BK314 hb
     replace BK315 := bs_ BK315 hb
     replace BK327 := bs_ BK327 hb
     replace HB := Aside0.mk (below_step (hB_ HB.out) hb)
     (try clear hb)
     (try clear hb2)
     (try clear hk)
     (try clear hi)
     refine hK.out _ _ ⟨ck_ BK314 0, ck_ BK314 1, ck_ BK314 2, ck_ BK314 3, ck_ BK314 4⟩ (fun hHeld => ?_)
     clear hK K
     refine norm_ (a' := ?_) ?_ ?_
     rotate_left
     ·
      show Act.put _ (some 71) _ = _
      simp only [Act.put, sa_, s0_, s1_, i64_w, i32_w]
      rfl
     refine pA_ 3 68 ?_ (b_ 9 79) (any_of HT_.out (by kernel_rfl)) rfl rfl (fun _ _ _ h => h) (by rfl) ?_ ?_ ?_ ?_; rotate_left
     · intro w'; go_simp; with_reducible rfl
     rotate_left
     · simp only [Act.put, sa_, s0_, s1_, i64_w, i32_w]; rfl
     refine pA_ 4 72 ?_ (b_ 9 95) (any_of HT_.out (by kernel_rfl)) rfl rfl (fun _ _ _ h => h) (by rfl) ?_ ?_ ?_ ?_; rotate_left
     · intro w'; go_simp; with_reducible rfl
     rotate_left
     · simp only [Act.put, sa_, s0_, s1_, i64_w, i32_w]; rfl
     refine pA_ 5 73 ?_ (b_ 9 127) (any_of HT_.out (by kernel_rfl)) rfl rfl (fun _ _ _ h => h) (by rfl) ?_ ?_ ?_ ?_; rotate_left
     · intro w'; go_simp; with_reducible rfl
     rotate_left
     · simp only [Act.put, sa_, s0_, s1_, i64_w, i32_w]; rfl
     exact norm_ (by simp only [putAll, Act.put, sa_, s0_, s1_]) (hCont (.slice Ao46 t316.length co46, gb327) _ ⟨hHeld, (rr_ HO318.out), bq_, bq_, bq_, GW327.out, GE327.out, NB314_327.out, NB327_314.out, NB315_327.out, NB327_315.out, hq_⟩)
   rintro ⟨v317, gb327⟩ w48 ⟨hS_, h0_, h1_, h2_, h3_, h4_, h5_, h6_, h7_, h8_, h9_, h10_⟩
   (try dsimp only at h0_ h1_ h2_ h3_ h4_ h5_ h6_ h7_ h8_ h9_ h10_)
   have n0_ := Aside0.mk h0_
   have n1_ := Aside0.mk h1_
   have n2_ := Aside0.mk h2_
   have n3_ := Aside0.mk h3_
   have n4_ := Aside0.mk h4_
   have n5_ := Aside0.mk h5_
   have n6_ := Aside0.mk h6_
   have n7_ := Aside0.mk h7_
   have n8_ := Aside0.mk h8_
   have n9_ := Aside0.mk h9_
   have n10_ := Aside0.mk h10_
   clear BK314
   clear BK315
   clear HB
   clear h0_ h1_ h2_ h3_ h4_ h5_ h6_ h7_ h8_ h9_ h10_
   have HO318 := n0_
   have BK314 := n1_
   have BK315 := n2_
   have BK327 := n3_
   have GW327 := n4_
   have GE327 := n5_
   have NB314_327 := n6_
   have NB327_314 := n7_
   have NB315_327 := n8_
   have NB327_315 := n9_
   have HB := n10_
   clear n0_ n1_ n2_ n3_ n4_ n5_ n6_ n7_ n8_ n9_ n10_
   have hHeld : w48.cell? ⟨gb314, 0, none⟩ = some (.int .u8 2) ∧ w48.cell? ⟨gb314, 1, none⟩ = some (.int .i64 1) ∧ w48.cell? ⟨gb314, 2, none⟩ = some (.int .i64 30) ∧ w48.cell? ⟨gb314, 3, none⟩ = some (.int .i64 4) ∧ w48.cell? ⟨gb314, 4, none⟩ = some (.int .i64 0) := hS_
   refine norm_ (a' := ?_) ?_ ?_; rotate_left
   · simp only [putAll, Act.put, sa_, s0_, s1_]; rfl
   refine one_ (i := 7) (N := none) (b_ 9 255) rfl rfl (one_of HT_.out (by kernel_rfl)) (by decide) (fun K hK => ?_)
   have hs49 : w48.cell? ⟨gb327, 0, none⟩ = some (.int .u8 0) := ck_ BK327 0
   have hfs49 := blk_frozen BK327.out 0
   have hns49_0 := NB314_327.out
   have hns49_1 := NB315_327.out
   have hms49_0 := NB327_314.out
   have hms49_1 := NB327_315.out
   have hs50 : w48.cell? ⟨gb327, 1, none⟩ = some (.int .i64 0) := ck_ BK327 1
   have hfs50 := blk_frozen BK327.out 1
   have hns50_0 := NB314_327.out
   have hns50_1 := NB315_327.out
   have hms50_0 := NB327_314.out
   have hms50_1 := NB327_315.out
   have hs51 : w48.cell? ⟨gb327, 2, none⟩ = some (.int .i64 0) := ck_ BK327 2
   have hfs51 := blk_frozen BK327.out 2
   have hns51_0 := NB314_327.out
   have hns51_1 := NB315_327.out
   have hms51_0 := NB327_314.out
   have hms51_1 := NB327_315.out
   have hs52 : w48.cell? ⟨gb327, 3, none⟩ = some (.int .i64 0) := ck_ BK327 3
   have hfs52 := blk_frozen BK327.out 3
   have hns52_0 := NB314_327.out
   have hns52_1 := NB315_327.out
   have hms52_0 := NB327_314.out
   have hms52_1 := NB327_315.out
   have hs53 : w48.cell? ⟨gb327, 4, none⟩ = some (.int .i64 0) := ck_ BK327 4
   have hfs53 := blk_frozen BK327.out 4
   have hns53_0 := NB314_327.out
   have hns53_1 := NB315_327.out
   have hms53_0 := NB327_314.out
   have hms53_1 := NB327_315.out
   refine skip_ (w1 := ?_) (by rfl) rfl ?_ ?_; rotate_left
   · go_simp; rfl
   refine hK.out _ _ ⟨((cell_far (p := ⟨gb327, _, none⟩) NB314_327.out _).trans (((cell_far (p := ⟨gb327, _, none⟩) NB314_327.out _).trans (((cell_far (p := ⟨gb327, _, none⟩) NB314_327.out _).trans (((cell_far (p := ⟨gb327, _, none⟩) NB314_327.out _).trans (((cell_far (p := ⟨gb327, _, none⟩) NB314_327.out _).trans (hHeld.1)))))))))), ((cell_far (p := ⟨gb327, _, none⟩) NB314_327.out _).trans (((cell_far (p := ⟨gb327, _, none⟩) NB314_327.out _).trans (((cell_far (p := ⟨gb327, _, none⟩) NB314_327.out _).trans (((cell_far (p := ⟨gb327, _, none⟩) NB314_327.out _).trans (((cell_far (p := ⟨gb327, _, none⟩) NB314_327.out _).trans (hHeld.2.1)))))))))), ((cell_far (p := ⟨gb327, _, none⟩) NB314_327.out _).trans (((cell_far (p := ⟨gb327, _, none⟩) NB314_327.out _).trans (((cell_far (p := ⟨gb327, _, none⟩) NB314_327.out _).trans (((cell_far (p := ⟨gb327, _, none⟩) NB314_327.out _).trans (((cell_far (p := ⟨gb327, _, none⟩) NB314_327.out _).trans (hHeld.2.2.1)))))))))), ((cell_far (p := ⟨gb327, _, none⟩) NB314_327.out _).trans (((cell_far (p := ⟨gb327, _, none⟩) NB314_327.out _).trans (((cell_far (p := ⟨gb327, _, none⟩) NB314_327.out _).trans (((cell_far (p := ⟨gb327, _, none⟩) NB314_327.out _).trans (((cell_far (p := ⟨gb327, _, none⟩) NB314_327.out _).trans (hHeld.2.2.2.1)))))))))), ((cell_far (p := ⟨gb327, _, none⟩) NB314_327.out _).trans (((cell_far (p := ⟨gb327, _, none⟩) NB314_327.out _).trans (((cell_far (p := ⟨gb327, _, none⟩) NB314_327.out _).trans (((cell_far (p := ⟨gb327, _, none⟩) NB314_327.out _).trans (((cell_far (p := ⟨gb327, _, none⟩) NB314_327.out _).trans (hHeld.2.2.2.2))))))))))⟩ (fun hHeld => ?_)
   clear hK K
   refine pA_ 8 11 ?_ (b_ 9 511) (any_of HT_.out (by kernel_rfl)) rfl rfl (fun _ _ _ h => h) (by rfl) ?_ ?_ ?_ ?_; rotate_left
   · intro w'; go_simp; with_reducible rfl
   rotate_left
   · simp only [Act.put, sa_, s0_, s1_, i64_w, i32_w]; rfl
   refine done_ (done_of HT_.out (by kernel_rfl)) ?_
   try go_wp2_with (first | ((with_reducible refine gate_callee (f := 11) rfl ?_); refine goesL_ (some 75) rfl rfl Try.func11 (by kernel_rfl) rfl #[] rfl (by (try simp only [List.map_toArray, List.map_cons, List.map_nil]); first | done | rfl | (simp only [List.length_drop, List.length_take]; rfl)) ?_; (with_reducible refine (millhandlaw24_node.calls  t328 t331 t332 _ A24.out).mono ?_); rintro e w54 ⟨v329, rfl, ho0, hb⟩; refine ⟨_, rfl, ?_⟩; have HO330 := Aside0.mk (Kd.R_lower (Kd.R_new' ho0 (Kd.R_lt (rr_ (Kd.R_mono (Kd.R_far (p := ⟨gb327, 4, none⟩) (Kd.R_far (p := ⟨gb327, 3, none⟩) (Kd.R_far (p := ⟨gb327, 2, none⟩) (Kd.R_far (p := ⟨gb327, 1, none⟩) (Kd.R_far (p := ⟨gb327, 0, none⟩) (Kd.R_types HO318.out BK327.out (by decide)) (fun _ hk => hk.2) (.int .u8 t321)) (fun _ hk => hk.2) (.int .i64 t322)) (fun _ hk => hk.2) (.int .i64 t323)) (fun _ hk => hk.2) (.int .i64 t324)) (fun _ hk => hk.2) (.int .i64 t325)) (fun _ h_ => h_.1))))) (below_size (hG_ HB.out GE327.out))); replace HO318 := Aside0.mk (Kd.R_elder' (rr_ (Kd.R_mono (Kd.R_far (p := ⟨gb327, 4, none⟩) (Kd.R_far (p := ⟨gb327, 3, none⟩) (Kd.R_far (p := ⟨gb327, 2, none⟩) (Kd.R_far (p := ⟨gb327, 1, none⟩) (Kd.R_far (p := ⟨gb327, 0, none⟩) (Kd.R_types HO318.out BK327.out (by decide)) (fun _ hk => hk.2) (.int .u8 t321)) (fun _ hk => hk.2) (.int .i64 t322)) (fun _ hk => hk.2) (.int .i64 t323)) (fun _ hk => hk.2) (.int .i64 t324)) (fun _ hk => hk.2) (.int .i64 t325)) (fun _ h_ => h_.1))) (Kd.R_base ho0) hb); replace BK314 := bF_ BK314 NB314_327.out hb; replace BK315 := bF_ BK315 NB315_327.out hb; replace BK327 := Aside0.mk (blk_below (g := gb327) (o := .cells #[.int .u8 t321, .int .i64 t322, .int .i64 t323, .int .i64 t324, .int .i64 t325] 31 (0, 0)) (by (with_reducible repeat (first | refine blk_drewN ?_ _ | refine blk_drew ?_ | refine blk_alloc ?_ _)); refine blk_put (cs := #[.int .u8 t321, .int .i64 t322, .int .i64 t323, .int .i64 t324, .int .i64 0]) ?_ 4 _ rfl; (with_reducible repeat (first | refine blk_drewN ?_ _ | refine blk_drew ?_ | refine blk_alloc ?_ _)); refine blk_put (cs := #[.int .u8 t321, .int .i64 t322, .int .i64 t323, .int .i64 0, .int .i64 0]) ?_ 3 _ rfl; (with_reducible repeat (first | refine blk_drewN ?_ _ | refine blk_drew ?_ | refine blk_alloc ?_ _)); refine blk_put (cs := #[.int .u8 t321, .int .i64 t322, .int .i64 0, .int .i64 0, .int .i64 0]) ?_ 2 _ rfl; (with_reducible repeat (first | refine blk_drewN ?_ _ | refine blk_drew ?_ | refine blk_alloc ?_ _)); refine blk_put (cs := #[.int .u8 t321, .int .i64 0, .int .i64 0, .int .i64 0, .int .i64 0]) ?_ 1 _ rfl; (with_reducible repeat (first | refine blk_drewN ?_ _ | refine blk_drew ?_ | refine blk_alloc ?_ _)); refine blk_put (cs := #[.int .u8 0, .int .i64 0, .int .i64 0, .int .i64 0, .int .i64 0]) ?_ 0 _ rfl; (with_reducible repeat (first | refine blk_drewN ?_ _ | refine blk_drew ?_ | refine blk_alloc ?_ _)); exact BK327.out) hb); replace HB := Aside0.mk (below_step (hG_ HB.out GE327.out) hb); (try clear hb); (try clear hb2); (try clear hk); (try clear hi); (try clear ho0); obtain ⟨Ao55, co55, eo55⟩ := Kd.R_slice HO330.out; subst eo55) | ((with_reducible refine gate_callee (f := 12) rfl ?_); refine goesL_ (some 77) rfl rfl Try.func12 (by kernel_rfl) rfl #[.agg #[.slice Ao55 t328.length co55, .int .i64 t331, .int .i64 t332], .agg #[.int .u8 1, .int .i64 0, .int .i64 0, .int .i64 0, .int .i64 0], .int .i64 4] rfl (by (try simp only [List.map_toArray, List.map_cons, List.map_nil]); first | done | rfl | (simp only [List.length_drop, List.length_take]; rfl)) ?_; (with_reducible refine (task_Done.calls kj6 _ _ t328 t331 t332 1 0 0 0 0 4 t333 t334 t335 t336 t337 t338 _ ?side1 ?side2 A25.out).mono ?_); (case side1 => repeat (first | exact (Kd.R_reads' HO330.out).2.2 | (with_reducible refine Kd.C_alloc ?_ _) | (with_reducible refine Kd.C_drewN ?_ _) | (with_reducible refine Kd.C_drew ?_))); (case side2 => exact (Kd.R_reads' HO330.out).2.1); rintro e w56 ⟨rfl, hb⟩; refine ⟨_, rfl, ?_⟩; replace HO318 := Aside0.mk (Kd.R_below (rr_ HO318.out) hb); replace HO330 := Aside0.mk (Kd.R_below (rr_ HO330.out) hb); replace BK314 := bs_ BK314 hb; replace BK315 := bs_ BK315 hb; replace BK327 := bs_ BK327 hb; replace HB := Aside0.mk (below_step (hB_ HB.out) hb); (try clear hb); (try clear hb2); (try clear hk); (try clear hi)) | ((with_reducible refine gate_dst (N := 12) rfl ?_); refine box_event ?hg (N := 12) ?hd (cs := #[.int .u8 0, .int .i64 0, .int .i64 0, .int .i64 0, .int .i64 0]) (t := 31) ?hr ?_; (case hd => rfl); (case hg => rfl); (case hr => first | (go_simp; done) | (go_simp; rfl)); intro gb339 hg w57 hbox hb; replace HO318 := Aside0.mk (Kd.R_below (rr_ HO318.out) hb); replace HO330 := Aside0.mk (Kd.R_below (rr_ HO330.out) hb); have BK339 := Aside0.mk (hbox); have GW339 := bz_ (hB_ HB.out) hg; have GE339 := bz_ (hB_ HB.out) hg; replace HB := Aside0.mk (below_step (hB_ HB.out) hb); have NB314_339 := bn_ BK314 hg; have NB339_314 := bm_ BK314 hg; replace BK314 := bs_ BK314 hb; have NB315_339 := bn_ BK315 hg; have NB339_315 := bm_ BK315 hg; replace BK315 := bs_ BK315 hb; have NB327_339 := bn_ BK327 hg; have NB339_327 := bm_ BK327 hg; replace BK327 := bs_ BK327 hb; clear hb hbox hg; have hnb58 := NB339_314.out; have hnc58 := NB314_339.out; have hnb59 := NB339_315.out; have hnc59 := NB315_339.out; have hnb60 := NB339_327.out; have hnc60 := NB327_339.out; have hcz61_0 : w57.cell? ⟨gb339, 0, none⟩ = some (.int .u8 0) := ck_ BK339 0; have hcz61_1 : w57.cell? ⟨gb339, 1, none⟩ = some (.int .i64 0) := ck_ BK339 1; have hcz61_2 : w57.cell? ⟨gb339, 2, none⟩ = some (.int .i64 0) := ck_ BK339 2; have hcz61_3 : w57.cell? ⟨gb339, 3, none⟩ = some (.int .i64 0) := ck_ BK339 3; have hcz61_4 : w57.cell? ⟨gb339, 4, none⟩ = some (.int .i64 0) := ck_ BK339 4; have hfz61_0 := blk_frozen BK339.out 0; have hfz61_1 := blk_frozen BK339.out 1; have hfz61_2 := blk_frozen BK339.out 2; have hfz61_3 := blk_frozen BK339.out 3; have hfz61_4 := blk_frozen BK339.out 4))
   have n0_ : Aside0 (Kd.R (Kd.int .i64) 3 (((((w57.setCell ⟨gb339, 0, none⟩ (.int .u8 t333)).setCell ⟨gb339, 1, none⟩ (.int .i64 t334)).setCell ⟨gb339, 2, none⟩ (.int .i64 t335)).setCell ⟨gb339, 3, none⟩ (.int .i64 t336)).setCell ⟨gb339, 4, none⟩ (.int .i64 t337)) w.heap.size (fun k_ => some k_ ≠ (.slice Ao55 t328.length co55 : Value).ownBlock) v317 t316) := ⟨rr_ (Kd.R_mono (Kd.R_far (p := ⟨gb339, 4, none⟩) (Kd.R_far (p := ⟨gb339, 3, none⟩) (Kd.R_far (p := ⟨gb339, 2, none⟩) (Kd.R_far (p := ⟨gb339, 1, none⟩) (Kd.R_far (p := ⟨gb339, 0, none⟩) (Kd.R_types HO318.out BK339.out (by decide)) (fun _ hk => hk.2) (.int .u8 t333)) (fun _ hk => hk.2) (.int .i64 t334)) (fun _ hk => hk.2) (.int .i64 t335)) (fun _ hk => hk.2) (.int .i64 t336)) (fun _ hk => hk.2) (.int .i64 t337)) (fun _ hk => hk.1.2))⟩
   have n1_ : Aside0 (Kd.R (Kd.int .i64) 3 (((((w57.setCell ⟨gb339, 0, none⟩ (.int .u8 t333)).setCell ⟨gb339, 1, none⟩ (.int .i64 t334)).setCell ⟨gb339, 2, none⟩ (.int .i64 t335)).setCell ⟨gb339, 3, none⟩ (.int .i64 t336)).setCell ⟨gb339, 4, none⟩ (.int .i64 t337)) w.heap.size (fun k_ => some k_ ≠ (v317 : Value).ownBlock) (.slice Ao55 t328.length co55) t328) := ⟨rr_ (Kd.R_mono (Kd.R_far (p := ⟨gb339, 4, none⟩) (Kd.R_far (p := ⟨gb339, 3, none⟩) (Kd.R_far (p := ⟨gb339, 2, none⟩) (Kd.R_far (p := ⟨gb339, 1, none⟩) (Kd.R_far (p := ⟨gb339, 0, none⟩) (Kd.R_types HO330.out BK339.out (by decide)) (fun _ hk => hk.2) (.int .u8 t333)) (fun _ hk => hk.2) (.int .i64 t334)) (fun _ hk => hk.2) (.int .i64 t335)) (fun _ hk => hk.2) (.int .i64 t336)) (fun _ hk => hk.2) (.int .i64 t337)) (fun _ hk => hk.1.2))⟩
   have n2_ : Aside0 ((((((w57.setCell ⟨gb339, 0, none⟩ (.int .u8 t333)).setCell ⟨gb339, 1, none⟩ (.int .i64 t334)).setCell ⟨gb339, 2, none⟩ (.int .i64 t335)).setCell ⟨gb339, 3, none⟩ (.int .i64 t336)).setCell ⟨gb339, 4, none⟩ (.int .i64 t337)).heap[gb314]? = some (.cells #[.int .u8 2, .int .i64 1, .int .i64 30, .int .i64 4, .int .i64 0] 31 (0, 0))) := ⟨bf_⟩
   have n3_ : Aside0 ((((((w57.setCell ⟨gb339, 0, none⟩ (.int .u8 t333)).setCell ⟨gb339, 1, none⟩ (.int .i64 t334)).setCell ⟨gb339, 2, none⟩ (.int .i64 t335)).setCell ⟨gb339, 3, none⟩ (.int .i64 t336)).setCell ⟨gb339, 4, none⟩ (.int .i64 t337)).heap[gb315]? = some (.cells #[.int .u8 3, .int .i64 1, .int .i64 17, .int .i64 0, .int .i64 0] 31 (0, 0))) := ⟨bf_⟩
   have n4_ : Aside0 ((((((w57.setCell ⟨gb339, 0, none⟩ (.int .u8 t333)).setCell ⟨gb339, 1, none⟩ (.int .i64 t334)).setCell ⟨gb339, 2, none⟩ (.int .i64 t335)).setCell ⟨gb339, 3, none⟩ (.int .i64 t336)).setCell ⟨gb339, 4, none⟩ (.int .i64 t337)).heap[gb327]? = some (.cells #[.int .u8 t321, .int .i64 t322, .int .i64 t323, .int .i64 t324, .int .i64 t325] 31 (0, 0))) := ⟨bf_⟩
   have n5_ : Aside0 ((((((w57.setCell ⟨gb339, 0, none⟩ (.int .u8 t333)).setCell ⟨gb339, 1, none⟩ (.int .i64 t334)).setCell ⟨gb339, 2, none⟩ (.int .i64 t335)).setCell ⟨gb339, 3, none⟩ (.int .i64 t336)).setCell ⟨gb339, 4, none⟩ (.int .i64 t337)).heap[gb339]? = some (.cells #[.int .u8 t333, .int .i64 t334, .int .i64 t335, .int .i64 t336, .int .i64 t337] 31 (0, 0))) := ⟨by (with_reducible repeat (first | refine blk_drewN ?_ _ | refine blk_drew ?_ | refine blk_alloc ?_ _)); refine blk_put (cs := #[.int .u8 t333, .int .i64 t334, .int .i64 t335, .int .i64 t336, .int .i64 0]) ?_ 4 _ rfl; (with_reducible repeat (first | refine blk_drewN ?_ _ | refine blk_drew ?_ | refine blk_alloc ?_ _)); refine blk_put (cs := #[.int .u8 t333, .int .i64 t334, .int .i64 t335, .int .i64 0, .int .i64 0]) ?_ 3 _ rfl; (with_reducible repeat (first | refine blk_drewN ?_ _ | refine blk_drew ?_ | refine blk_alloc ?_ _)); refine blk_put (cs := #[.int .u8 t333, .int .i64 t334, .int .i64 0, .int .i64 0, .int .i64 0]) ?_ 2 _ rfl; (with_reducible repeat (first | refine blk_drewN ?_ _ | refine blk_drew ?_ | refine blk_alloc ?_ _)); refine blk_put (cs := #[.int .u8 t333, .int .i64 0, .int .i64 0, .int .i64 0, .int .i64 0]) ?_ 1 _ rfl; (with_reducible repeat (first | refine blk_drewN ?_ _ | refine blk_drew ?_ | refine blk_alloc ?_ _)); refine blk_put (cs := #[.int .u8 0, .int .i64 0, .int .i64 0, .int .i64 0, .int .i64 0]) ?_ 0 _ rfl; (with_reducible repeat (first | refine blk_drewN ?_ _ | refine blk_drew ?_ | refine blk_alloc ?_ _)); exact BK339.out⟩
   have n6_ : Aside0 (Below w.heap.size w (((((w57.setCell ⟨gb339, 0, none⟩ (.int .u8 t333)).setCell ⟨gb339, 1, none⟩ (.int .i64 t334)).setCell ⟨gb339, 2, none⟩ (.int .i64 t335)).setCell ⟨gb339, 3, none⟩ (.int .i64 t336)).setCell ⟨gb339, 4, none⟩ (.int .i64 t337))) := ⟨hq_⟩
   (try clear HO318)
   (try clear HO330)
   (try clear BK314)
   (try clear BK315)
   (try clear BK327)
   (try clear BK339)
   (try clear HB)
   generalize (((((w57.setCell ⟨gb339, 0, none⟩ (.int .u8 t333)).setCell ⟨gb339, 1, none⟩ (.int .i64 t334)).setCell ⟨gb339, 2, none⟩ (.int .i64 t335)).setCell ⟨gb339, 3, none⟩ (.int .i64 t336)).setCell ⟨gb339, 4, none⟩ (.int .i64 t337)) = w62 at n0_ n1_ n2_ n3_ n4_ n5_ n6_ ⊢
   have HO318 := n0_
   have HO330 := n1_
   have BK314 := n2_
   have BK315 := n3_
   have BK327 := n4_
   have BK339 := n5_
   have HB := n6_
   clear n0_ n1_ n2_ n3_ n4_ n5_ n6_
   replace HO318 := Aside0.mk (Kd.R_drew HO318.out)
   replace HO330 := Aside0.mk (Kd.R_drew HO330.out)
   replace BK314 := Aside0.mk (blk_drew BK314.out)
   replace BK315 := Aside0.mk (blk_drew BK315.out)
   replace BK327 := Aside0.mk (blk_drew BK327.out)
   replace BK339 := Aside0.mk (blk_drew BK339.out)
   replace HB := Aside0.mk (below_drew1 HB.out)
   refine start_ (n := 9) (S := fun w' => w'.cell? ⟨gb314, 0, none⟩ = some (.int .u8 2) ∧ w'.cell? ⟨gb314, 1, none⟩ = some (.int .i64 1) ∧ w'.cell? ⟨gb314, 2, none⟩ = some (.int .i64 30) ∧ w'.cell? ⟨gb314, 3, none⟩ = some (.int .i64 4) ∧ w'.cell? ⟨gb314, 4, none⟩ = some (.int .i64 0)) (ds := []) (b_ 9 0) (by kernel_rfl) rfl rfl ⟨ck_ BK314 0, ck_ BK314 1, ck_ BK314 2, ck_ BK314 3, ck_ BK314 4⟩ (fun hHeld => ?_); refine with_tabW millhandlaw24_TaskNames.tab9 millhandlaw24_TaskNames.bits9 (fun HT_ HW_ => ?_)
   generalize w62.drew = w63 at HO318 HO330 BK314 BK315 BK327 BK339 HB hHeld ⊢
   refine tA_ 1 82 ?_ (b_ 9 2) (take_ofW HT_.out HW_.out (by kernel_rfl)) rfl rfl (fun _ _ _ h => h) (by rfl) ?_ hHeld ?_ ?_ ?_; rotate_left
   · rintro w' ⟨s0, s1, s2, s3, s4⟩; go_simp; with_reducible rfl
   rotate_left
   · simp only [Act.put, sa_, s0_, s1_, i64_w, i32_w]; rfl
   refine join_ (σ := Value × Nat) 2 (b_ 9 127) (fun s_ => [(81, .agg #[s_.1, .int .i64 t343, .int .i64 t344]), (83, .tuple #[.agg #[.int .u8 t345, .int .i64 t346, .int .i64 t347, .int .i64 t348, .int .i64 t349], .int .i64 t350]), (14, .pointer (some ⟨s_.2, 0, none⟩)), (80, .tuple #[.agg #[.int .u8 t345, .int .i64 t346, .int .i64 t347, .int .i64 t348, .int .i64 t349], .int .i64 t350]), (84, .agg #[.int .u8 t345, .int .i64 t346, .int .i64 t347, .int .i64 t348, .int .i64 t349]), (85, .int .i64 t350)]) (fun s_ w' => (w'.cell? ⟨gb314, 0, none⟩ = some (.int .u8 2) ∧ w'.cell? ⟨gb314, 1, none⟩ = some (.int .i64 1) ∧ w'.cell? ⟨gb314, 2, none⟩ = some (.int .i64 30) ∧ w'.cell? ⟨gb314, 3, none⟩ = some (.int .i64 4) ∧ w'.cell? ⟨gb314, 4, none⟩ = some (.int .i64 0)) ∧ (Kd.R (Kd.int .i64) 3 w' w.heap.size (fun k_ => some k_ ≠ (.slice Ao55 t328.length co55 : Value).ownBlock ∧ some k_ ≠ (s_.1 : Value).ownBlock) v317 t316) ∧ (Kd.R (Kd.int .i64) 3 w' w.heap.size (fun k_ => some k_ ≠ (v317 : Value).ownBlock ∧ some k_ ≠ (s_.1 : Value).ownBlock) (.slice Ao55 t328.length co55) t328) ∧ (Kd.R (Kd.int .i64) 3 w' w.heap.size (fun k_ => some k_ ≠ (v317 : Value).ownBlock ∧ some k_ ≠ (.slice Ao55 t328.length co55 : Value).ownBlock) s_.1 t340) ∧ (w'.heap[gb314]? = some (.cells #[.int .u8 2, .int .i64 1, .int .i64 30, .int .i64 4, .int .i64 0] 31 (0, 0))) ∧ (w'.heap[gb315]? = some (.cells #[.int .u8 3, .int .i64 1, .int .i64 17, .int .i64 0, .int .i64 0] 31 (0, 0))) ∧ (w'.heap[gb327]? = some (.cells #[.int .u8 t321, .int .i64 t322, .int .i64 t323, .int .i64 t324, .int .i64 t325] 31 (0, 0))) ∧ (w'.heap[gb339]? = some (.cells #[.int .u8 t333, .int .i64 t334, .int .i64 t335, .int .i64 t336, .int .i64 t337] 31 (0, 0))) ∧ (w'.heap[s_.2]? = some (.cells #[.int .u8 0, .int .i64 0, .int .i64 0, .int .i64 0, .int .i64 0] 31 (0, 0))) ∧ (w.heap.size ≤ s_.2) ∧ (w.heap.size ≤ s_.2) ∧ (gb314 ≠ s_.2) ∧ (s_.2 ≠ gb314) ∧ (gb315 ≠ s_.2) ∧ (s_.2 ≠ gb315) ∧ (gb327 ≠ s_.2) ∧ (s_.2 ≠ gb327) ∧ (gb339 ≠ s_.2) ∧ (s_.2 ≠ gb339) ∧ (Below w.heap.size w w')) ?_ ?_
   rotate_left
   ·
    intro hCont
    refine two_ (i := 0) (j := 6) (Ni := some 81) (Nj := some 14) (b_ 9 3) (b_ 9 66) rfl rfl rfl rfl (two_of HT_.out (by kernel_rfl)) (by decide) (by decide) (fun K hK => ?_) (fun K hK => ?_)
    ·
     skip
     refine goes_ Try.func11 (by kernel_rfl) rfl #[] (by rfl) rfl rfl (by (try simp only [List.map_toArray, List.map_cons, List.map_nil]); first | done | rfl | (simp only [List.length_drop, List.length_take]; rfl)) ?_
     with_reducible refine (millhandlaw24_node.calls  t340 t343 t344 _ A26.out).mono ?_
     rintro e w64 ⟨v341, rfl, ho0, hb⟩
     refine ⟨_, rfl, ?_⟩
     have HO342 := Aside0.mk (Kd.R_lower (Kd.R_new' (Kd.R_new' ho0 (Kd.R_lt (rr_ HO318.out))) (Kd.R_lt (rr_ HO330.out))) (below_size (hB_ HB.out)))
     replace HO318 := Aside0.mk (Kd.R_elder' (rr_ HO318.out) (Kd.R_base ho0) hb)
     replace HO330 := Aside0.mk (Kd.R_elder' (rr_ HO330.out) (Kd.R_base ho0) hb)
     replace BK314 := bs_ BK314 hb
     replace BK315 := bs_ BK315 hb
     replace BK327 := bs_ BK327 hb
     replace BK339 := bs_ BK339 hb
     replace HB := Aside0.mk (below_step (hB_ HB.out) hb)
     (try clear hb)
     (try clear hb2)
     (try clear hk)
     (try clear hi)
     (try clear ho0)
     obtain ⟨Ao65, co65, eo65⟩ := Kd.R_slice HO342.out
     (first | subst eo65 | (injection eo65 with f1_ f2_ f3_; have f4_ := f1_.symm; have f5_ := f3_.symm; clear f1_ f2_ f3_; subst f4_; subst f5_))
     refine hK.out _ _ ⟨ck_ BK314 0, ck_ BK314 1, ck_ BK314 2, ck_ BK314 3, ck_ BK314 4⟩ (fun hHeld => ?_)
     clear hK K
     refine norm_ (a' := ?_) ?_ ?_
     rotate_left
     ·
      show Act.put _ (some 81) _ = _
      simp only [Act.put, sa_, s0_, s1_, i64_w, i32_w]
      rfl
     refine two_ (i := 2) (j := 6) (Ni := some 83) (Nj := some 14) (b_ 9 7) (b_ 9 67) rfl rfl rfl rfl (two_of HT_.out (by kernel_rfl)) (by decide) (by decide) (fun K hK => ?_) (fun K hK => ?_)
     ·
      skip
      refine goes_ Try.func13 (by kernel_rfl) rfl #[.agg #[.slice Ao65 t340.length co65, .int .i64 t343, .int .i64 t344], .agg #[.int .u8 2, .int .i64 1, .int .i64 30, .int .i64 4, .int .i64 0], .int .i64 4, .int .i64 40] (by rfl) rfl rfl (by (try simp only [List.map_toArray, List.map_cons, List.map_nil]); first | done | rfl | (simp only [List.length_drop, List.length_take]; rfl)) ?_
      with_reducible refine (task_Beat.calls kj6 _ _ t340 t343 t344 2 1 30 4 0 4 40 t345 t346 t347 t348 t349 t350 _ ?side1 ?side2 A27.out).mono ?_
      (case side1 => repeat (first | exact (Kd.R_reads' HO342.out).2.2 | (with_reducible refine Kd.C_alloc ?_ _) | (with_reducible refine Kd.C_drewN ?_ _) | (with_reducible refine Kd.C_drew ?_)))
      (case side2 => exact (Kd.R_reads' HO342.out).2.1)
      rintro e w66 ⟨rfl, hb⟩
      refine ⟨_, rfl, ?_⟩
      replace HO318 := Aside0.mk (Kd.R_below (rr_ HO318.out) hb)
      replace HO330 := Aside0.mk (Kd.R_below (rr_ HO330.out) hb)
      replace HO342 := Aside0.mk (Kd.R_below (rr_ HO342.out) hb)
      replace BK314 := bs_ BK314 hb
      replace BK315 := bs_ BK315 hb
      replace BK327 := bs_ BK327 hb
      replace BK339 := bs_ BK339 hb
      replace HB := Aside0.mk (below_step (hB_ HB.out) hb)
      (try clear hb)
      (try clear hb2)
      (try clear hk)
      (try clear hi)
      refine hK.out _ _ ⟨ck_ BK314 0, ck_ BK314 1, ck_ BK314 2, ck_ BK314 3, ck_ BK314 4⟩ (fun hHeld => ?_)
      clear hK K
      refine norm_ (a' := ?_) ?_ ?_
      rotate_left
      ·
       show Act.put _ (some 83) _ = _
       simp only [Act.put, sa_, s0_, s1_, i64_w, i32_w]
       rfl
      refine pA_ 3 80 ?_ (b_ 9 15) (any_of HT_.out (by kernel_rfl)) rfl rfl (fun _ _ _ h => h) (by rfl) ?_ ?_ ?_ ?_; rotate_left
      · intro w'; go_simp; with_reducible rfl
      rotate_left
      · simp only [Act.put, sa_, s0_, s1_, i64_w, i32_w]; rfl
      refine pA_ 4 84 ?_ (b_ 9 31) (any_of HT_.out (by kernel_rfl)) rfl rfl (fun _ _ _ h => h) (by rfl) ?_ ?_ ?_ ?_; rotate_left
      · intro w'; go_simp; with_reducible rfl
      rotate_left
      · simp only [Act.put, sa_, s0_, s1_, i64_w, i32_w]; rfl
      refine pA_ 5 85 ?_ (b_ 9 63) (any_of HT_.out (by kernel_rfl)) rfl rfl (fun _ _ _ h => h) (by rfl) ?_ ?_ ?_ ?_; rotate_left
      · intro w'; go_simp; with_reducible rfl
      rotate_left
      · simp only [Act.put, sa_, s0_, s1_, i64_w, i32_w]; rfl
      refine one_ (i := 6) (N := some 14) (b_ 9 127) rfl rfl (one_of HT_.out (by kernel_rfl)) (by decide) (fun K hK => ?_)
      refine box_step ?hg (N := 14) ?hd (cs := #[.int .u8 0, .int .i64 0, .int .i64 0, .int .i64 0, .int .i64 0]) (t := 31) ?hr ?_; (case hd => rfl); (case hg => rfl); (case hr => first | (go_simp; done) | (go_simp; rfl))
      intro gb351 hg w67 hbox hb
      replace HO318 := Aside0.mk (Kd.R_below (rr_ HO318.out) hb)
      replace HO330 := Aside0.mk (Kd.R_below (rr_ HO330.out) hb)
      replace HO342 := Aside0.mk (Kd.R_below (rr_ HO342.out) hb)
      have BK351 := Aside0.mk (hbox)
      have GW351 := bz_ (hB_ HB.out) hg
      have GE351 := bz_ (hB_ HB.out) hg
      replace HB := Aside0.mk (below_step (hB_ HB.out) hb)
      have NB314_351 := bn_ BK314 hg
      have NB351_314 := bm_ BK314 hg
      replace BK314 := bs_ BK314 hb
      have NB315_351 := bn_ BK315 hg
      have NB351_315 := bm_ BK315 hg
      replace BK315 := bs_ BK315 hb
      have NB327_351 := bn_ BK327 hg
      have NB351_327 := bm_ BK327 hg
      replace BK327 := bs_ BK327 hb
      have NB339_351 := bn_ BK339 hg
      have NB351_339 := bm_ BK339 hg
      replace BK339 := bs_ BK339 hb
      clear hb hbox hg
      refine hK.out _ _ ⟨ck_ BK314 0, ck_ BK314 1, ck_ BK314 2, ck_ BK314 3, ck_ BK314 4⟩ (fun hHeld => ?_)
      clear hK K
      refine norm_ (a' := ?_) ?_ ?_
      rotate_left
      ·
       show Act.put _ (some 14) _ = _
       simp only [Act.put, sa_, s0_, s1_, i64_w, i32_w]
       rfl
      exact norm_ (by simp only [putAll, Act.put, sa_, s0_, s1_]) (hCont (.slice Ao65 t340.length co65, gb351) _ ⟨hHeld, (rr_ HO318.out), (rr_ HO330.out), (rr_ (Kd.R_mono HO342.out (fun _ hk => ⟨hk.1.2, hk.2⟩))), bq_, bq_, bq_, bq_, bq_, GW351.out, GE351.out, NB314_351.out, NB351_314.out, NB315_351.out, NB351_315.out, NB327_351.out, NB351_327.out, NB339_351.out, NB351_339.out, hq_⟩)
     ·
      skip
      refine box_step ?hg (N := 14) ?hd (cs := #[.int .u8 0, .int .i64 0, .int .i64 0, .int .i64 0, .int .i64 0]) (t := 31) ?hr ?_; (case hd => rfl); (case hg => rfl); (case hr => first | (go_simp; done) | (go_simp; rfl))
      intro gb351 hg w65 hbox hb
      replace HO318 := Aside0.mk (Kd.R_below (rr_ HO318.out) hb)
      replace HO330 := Aside0.mk (Kd.R_below (rr_ HO330.out) hb)
      replace HO342 := Aside0.mk (Kd.R_below (rr_ HO342.out) hb)
      have BK351 := Aside0.mk (hbox)
      have GW351 := bz_ (hB_ HB.out) hg
      have GE351 := bz_ (hB_ HB.out) hg
      replace HB := Aside0.mk (below_step (hB_ HB.out) hb)
      have NB314_351 := bn_ BK314 hg
      have NB351_314 := bm_ BK314 hg
      replace BK314 := bs_ BK314 hb
      have NB315_351 := bn_ BK315 hg
      have NB351_315 := bm_ BK315 hg
      replace BK315 := bs_ BK315 hb
      have NB327_351 := bn_ BK327 hg
      have NB351_327 := bm_ BK327 hg
      replace BK327 := bs_ BK327 hb
      have NB339_351 := bn_ BK339 hg
      have NB351_339 := bm_ BK339 hg
      replace BK339 := bs_ BK339 hb
      clear hb hbox hg
      obtain ⟨Ao66, co66, eo66⟩ := Kd.R_slice HO342.out
      (first | subst eo66 | (injection eo66 with f1_ f2_ f3_; have f4_ := f1_.symm; have f5_ := f3_.symm; clear f1_ f2_ f3_; subst f4_; subst f5_))
      refine hK.out _ _ ⟨ck_ BK314 0, ck_ BK314 1, ck_ BK314 2, ck_ BK314 3, ck_ BK314 4⟩ (fun hHeld => ?_)
      clear hK K
      refine norm_ (a' := ?_) ?_ ?_
      rotate_left
      ·
       show Act.put _ (some 14) _ = _
       simp only [Act.put, sa_, s0_, s1_, i64_w, i32_w]
       rfl
      refine one_ (i := 2) (N := some 83) (b_ 9 71) rfl rfl (one_of HT_.out (by kernel_rfl)) (by decide) (fun K hK => ?_)
      refine goes_ Try.func13 (by kernel_rfl) rfl #[.agg #[.slice Ao66 t340.length co66, .int .i64 t343, .int .i64 t344], .agg #[.int .u8 2, .int .i64 1, .int .i64 30, .int .i64 4, .int .i64 0], .int .i64 4, .int .i64 40] (by rfl) rfl rfl (by (try simp only [List.map_toArray, List.map_cons, List.map_nil]); first | done | rfl | (simp only [List.length_drop, List.length_take]; rfl)) ?_
      with_reducible refine (task_Beat.calls kj6 _ _ t340 t343 t344 2 1 30 4 0 4 40 t345 t346 t347 t348 t349 t350 _ ?side1 ?side2 A27.out).mono ?_
      (case side1 => repeat (first | exact (Kd.R_reads' HO342.out).2.2 | (with_reducible refine Kd.C_alloc ?_ _) | (with_reducible refine Kd.C_drewN ?_ _) | (with_reducible refine Kd.C_drew ?_)))
      (case side2 => exact (Kd.R_reads' HO342.out).2.1)
      rintro e w67 ⟨rfl, hb⟩
      refine ⟨_, rfl, ?_⟩
      replace HO318 := Aside0.mk (Kd.R_below (rr_ HO318.out) hb)
      replace HO330 := Aside0.mk (Kd.R_below (rr_ HO330.out) hb)
      replace HO342 := Aside0.mk (Kd.R_below (rr_ HO342.out) hb)
      replace BK314 := bs_ BK314 hb
      replace BK315 := bs_ BK315 hb
      replace BK327 := bs_ BK327 hb
      replace BK339 := bs_ BK339 hb
      replace BK351 := bs_ BK351 hb
      replace HB := Aside0.mk (below_step (hB_ HB.out) hb)
      (try clear hb)
      (try clear hb2)
      (try clear hk)
      (try clear hi)
      refine hK.out _ _ ⟨ck_ BK314 0, ck_ BK314 1, ck_ BK314 2, ck_ BK314 3, ck_ BK314 4⟩ (fun hHeld => ?_)
      clear hK K
      refine norm_ (a' := ?_) ?_ ?_
      rotate_left
      ·
       show Act.put _ (some 83) _ = _
       simp only [Act.put, sa_, s0_, s1_, i64_w, i32_w]
       rfl
      refine pA_ 3 80 ?_ (b_ 9 79) (any_of HT_.out (by kernel_rfl)) rfl rfl (fun _ _ _ h => h) (by rfl) ?_ ?_ ?_ ?_; rotate_left
      · intro w'; go_simp; with_reducible rfl
      rotate_left
      · simp only [Act.put, sa_, s0_, s1_, i64_w, i32_w]; rfl
      refine pA_ 4 84 ?_ (b_ 9 95) (any_of HT_.out (by kernel_rfl)) rfl rfl (fun _ _ _ h => h) (by rfl) ?_ ?_ ?_ ?_; rotate_left
      · intro w'; go_simp; with_reducible rfl
      rotate_left
      · simp only [Act.put, sa_, s0_, s1_, i64_w, i32_w]; rfl
      refine pA_ 5 85 ?_ (b_ 9 127) (any_of HT_.out (by kernel_rfl)) rfl rfl (fun _ _ _ h => h) (by rfl) ?_ ?_ ?_ ?_; rotate_left
      · intro w'; go_simp; with_reducible rfl
      rotate_left
      · simp only [Act.put, sa_, s0_, s1_, i64_w, i32_w]; rfl
      exact norm_ (by simp only [putAll, Act.put, sa_, s0_, s1_]) (hCont (.slice Ao66 t340.length co66, gb351) _ ⟨hHeld, (rr_ HO318.out), (rr_ HO330.out), (rr_ (Kd.R_mono HO342.out (fun _ hk => ⟨hk.1.2, hk.2⟩))), bq_, bq_, bq_, bq_, bq_, GW351.out, GE351.out, NB314_351.out, NB351_314.out, NB315_351.out, NB351_315.out, NB327_351.out, NB351_327.out, NB339_351.out, NB351_339.out, hq_⟩)
    ·
     skip
     refine box_step ?hg (N := 14) ?hd (cs := #[.int .u8 0, .int .i64 0, .int .i64 0, .int .i64 0, .int .i64 0]) (t := 31) ?hr ?_; (case hd => rfl); (case hg => rfl); (case hr => first | (go_simp; done) | (go_simp; rfl))
     intro gb351 hg w64 hbox hb
     replace HO318 := Aside0.mk (Kd.R_below (rr_ HO318.out) hb)
     replace HO330 := Aside0.mk (Kd.R_below (rr_ HO330.out) hb)
     have BK351 := Aside0.mk (hbox)
     have GW351 := bz_ (hB_ HB.out) hg
     have GE351 := bz_ (hB_ HB.out) hg
     replace HB := Aside0.mk (below_step (hB_ HB.out) hb)
     have NB314_351 := bn_ BK314 hg
     have NB351_314 := bm_ BK314 hg
     replace BK314 := bs_ BK314 hb
     have NB315_351 := bn_ BK315 hg
     have NB351_315 := bm_ BK315 hg
     replace BK315 := bs_ BK315 hb
     have NB327_351 := bn_ BK327 hg
     have NB351_327 := bm_ BK327 hg
     replace BK327 := bs_ BK327 hb
     have NB339_351 := bn_ BK339 hg
     have NB351_339 := bm_ BK339 hg
     replace BK339 := bs_ BK339 hb
     clear hb hbox hg
     refine hK.out _ _ ⟨ck_ BK314 0, ck_ BK314 1, ck_ BK314 2, ck_ BK314 3, ck_ BK314 4⟩ (fun hHeld => ?_)
     clear hK K
     refine norm_ (a' := ?_) ?_ ?_
     rotate_left
     ·
      show Act.put _ (some 14) _ = _
      simp only [Act.put, sa_, s0_, s1_, i64_w, i32_w]
      rfl
     refine one_ (i := 0) (N := some 81) (b_ 9 67) rfl rfl (one_of HT_.out (by kernel_rfl)) (by decide) (fun K hK => ?_)
     refine goes_ Try.func11 (by kernel_rfl) rfl #[] (by rfl) rfl rfl (by (try simp only [List.map_toArray, List.map_cons, List.map_nil]); first | done | rfl | (simp only [List.length_drop, List.length_take]; rfl)) ?_
     with_reducible refine (millhandlaw24_node.calls  t340 t343 t344 _ A26.out).mono ?_
     rintro e w65 ⟨v341, rfl, ho0, hb⟩
     refine ⟨_, rfl, ?_⟩
     have HO342 := Aside0.mk (Kd.R_lower (Kd.R_new' (Kd.R_new' ho0 (Kd.R_lt (rr_ HO318.out))) (Kd.R_lt (rr_ HO330.out))) (below_size (hB_ HB.out)))
     replace HO318 := Aside0.mk (Kd.R_elder' (rr_ HO318.out) (Kd.R_base ho0) hb)
     replace HO330 := Aside0.mk (Kd.R_elder' (rr_ HO330.out) (Kd.R_base ho0) hb)
     replace BK314 := bs_ BK314 hb
     replace BK315 := bs_ BK315 hb
     replace BK327 := bs_ BK327 hb
     replace BK339 := bs_ BK339 hb
     replace BK351 := bs_ BK351 hb
     replace HB := Aside0.mk (below_step (hB_ HB.out) hb)
     (try clear hb)
     (try clear hb2)
     (try clear hk)
     (try clear hi)
     (try clear ho0)
     obtain ⟨Ao66, co66, eo66⟩ := Kd.R_slice HO342.out
     (first | subst eo66 | (injection eo66 with f1_ f2_ f3_; have f4_ := f1_.symm; have f5_ := f3_.symm; clear f1_ f2_ f3_; subst f4_; subst f5_))
     refine hK.out _ _ ⟨ck_ BK314 0, ck_ BK314 1, ck_ BK314 2, ck_ BK314 3, ck_ BK314 4⟩ (fun hHeld => ?_)
     clear hK K
     refine norm_ (a' := ?_) ?_ ?_
     rotate_left
     ·
      show Act.put _ (some 81) _ = _
      simp only [Act.put, sa_, s0_, s1_, i64_w, i32_w]
      rfl
     refine one_ (i := 2) (N := some 83) (b_ 9 71) rfl rfl (one_of HT_.out (by kernel_rfl)) (by decide) (fun K hK => ?_)
     refine goes_ Try.func13 (by kernel_rfl) rfl #[.agg #[.slice Ao66 t340.length co66, .int .i64 t343, .int .i64 t344], .agg #[.int .u8 2, .int .i64 1, .int .i64 30, .int .i64 4, .int .i64 0], .int .i64 4, .int .i64 40] (by rfl) rfl rfl (by (try simp only [List.map_toArray, List.map_cons, List.map_nil]); first | done | rfl | (simp only [List.length_drop, List.length_take]; rfl)) ?_
     with_reducible refine (task_Beat.calls kj6 _ _ t340 t343 t344 2 1 30 4 0 4 40 t345 t346 t347 t348 t349 t350 _ ?side1 ?side2 A27.out).mono ?_
     (case side1 => repeat (first | exact (Kd.R_reads' HO342.out).2.2 | (with_reducible refine Kd.C_alloc ?_ _) | (with_reducible refine Kd.C_drewN ?_ _) | (with_reducible refine Kd.C_drew ?_)))
     (case side2 => exact (Kd.R_reads' HO342.out).2.1)
     rintro e w67 ⟨rfl, hb⟩
     refine ⟨_, rfl, ?_⟩
     replace HO318 := Aside0.mk (Kd.R_below (rr_ HO318.out) hb)
     replace HO330 := Aside0.mk (Kd.R_below (rr_ HO330.out) hb)
     replace HO342 := Aside0.mk (Kd.R_below (rr_ HO342.out) hb)
     replace BK314 := bs_ BK314 hb
     replace BK315 := bs_ BK315 hb
     replace BK327 := bs_ BK327 hb
     replace BK339 := bs_ BK339 hb
     replace BK351 := bs_ BK351 hb
     replace HB := Aside0.mk (below_step (hB_ HB.out) hb)
     (try clear hb)
     (try clear hb2)
     (try clear hk)
     (try clear hi)
     refine hK.out _ _ ⟨ck_ BK314 0, ck_ BK314 1, ck_ BK314 2, ck_ BK314 3, ck_ BK314 4⟩ (fun hHeld => ?_)
     clear hK K
     refine norm_ (a' := ?_) ?_ ?_
     rotate_left
     ·
      show Act.put _ (some 83) _ = _
      simp only [Act.put, sa_, s0_, s1_, i64_w, i32_w]
      rfl
     refine pA_ 3 80 ?_ (b_ 9 79) (any_of HT_.out (by kernel_rfl)) rfl rfl (fun _ _ _ h => h) (by rfl) ?_ ?_ ?_ ?_; rotate_left
     · intro w'; go_simp; with_reducible rfl
     rotate_left
     · simp only [Act.put, sa_, s0_, s1_, i64_w, i32_w]; rfl
     refine pA_ 4 84 ?_ (b_ 9 95) (any_of HT_.out (by kernel_rfl)) rfl rfl (fun _ _ _ h => h) (by rfl) ?_ ?_ ?_ ?_; rotate_left
     · intro w'; go_simp; with_reducible rfl
     rotate_left
     · simp only [Act.put, sa_, s0_, s1_, i64_w, i32_w]; rfl
     refine pA_ 5 85 ?_ (b_ 9 127) (any_of HT_.out (by kernel_rfl)) rfl rfl (fun _ _ _ h => h) (by rfl) ?_ ?_ ?_ ?_; rotate_left
     · intro w'; go_simp; with_reducible rfl
     rotate_left
     · simp only [Act.put, sa_, s0_, s1_, i64_w, i32_w]; rfl
     exact norm_ (by simp only [putAll, Act.put, sa_, s0_, s1_]) (hCont (.slice Ao66 t340.length co66, gb351) _ ⟨hHeld, (rr_ HO318.out), (rr_ HO330.out), (rr_ (Kd.R_mono HO342.out (fun _ hk => ⟨hk.1.2, hk.2⟩))), bq_, bq_, bq_, bq_, bq_, GW351.out, GE351.out, NB314_351.out, NB351_314.out, NB315_351.out, NB351_315.out, NB327_351.out, NB351_327.out, NB339_351.out, NB351_339.out, hq_⟩)
   rintro ⟨v341, gb351⟩ w68 ⟨hS_, h0_, h1_, h2_, h3_, h4_, h5_, h6_, h7_, h8_, h9_, h10_, h11_, h12_, h13_, h14_, h15_, h16_, h17_, h18_⟩
   (try dsimp only at h0_ h1_ h2_ h3_ h4_ h5_ h6_ h7_ h8_ h9_ h10_ h11_ h12_ h13_ h14_ h15_ h16_ h17_ h18_)
   have n0_ := Aside0.mk h0_
   have n1_ := Aside0.mk h1_
   have n2_ := Aside0.mk h2_
   have n3_ := Aside0.mk h3_
   have n4_ := Aside0.mk h4_
   have n5_ := Aside0.mk h5_
   have n6_ := Aside0.mk h6_
   have n7_ := Aside0.mk h7_
   have n8_ := Aside0.mk h8_
   have n9_ := Aside0.mk h9_
   have n10_ := Aside0.mk h10_
   have n11_ := Aside0.mk h11_
   have n12_ := Aside0.mk h12_
   have n13_ := Aside0.mk h13_
   have n14_ := Aside0.mk h14_
   have n15_ := Aside0.mk h15_
   have n16_ := Aside0.mk h16_
   have n17_ := Aside0.mk h17_
   have n18_ := Aside0.mk h18_
   clear HO318
   clear HO330
   clear BK314
   clear BK315
   clear BK327
   clear BK339
   clear HB
   clear h0_ h1_ h2_ h3_ h4_ h5_ h6_ h7_ h8_ h9_ h10_ h11_ h12_ h13_ h14_ h15_ h16_ h17_ h18_
   have HO318 := n0_
   have HO330 := n1_
   have HO342 := n2_
   have BK314 := n3_
   have BK315 := n4_
   have BK327 := n5_
   have BK339 := n6_
   have BK351 := n7_
   have GW351 := n8_
   have GE351 := n9_
   have NB314_351 := n10_
   have NB351_314 := n11_
   have NB315_351 := n12_
   have NB351_315 := n13_
   have NB327_351 := n14_
   have NB351_327 := n15_
   have NB339_351 := n16_
   have NB351_339 := n17_
   have HB := n18_
   clear n0_ n1_ n2_ n3_ n4_ n5_ n6_ n7_ n8_ n9_ n10_ n11_ n12_ n13_ n14_ n15_ n16_ n17_ n18_
   have hHeld : w68.cell? ⟨gb314, 0, none⟩ = some (.int .u8 2) ∧ w68.cell? ⟨gb314, 1, none⟩ = some (.int .i64 1) ∧ w68.cell? ⟨gb314, 2, none⟩ = some (.int .i64 30) ∧ w68.cell? ⟨gb314, 3, none⟩ = some (.int .i64 4) ∧ w68.cell? ⟨gb314, 4, none⟩ = some (.int .i64 0) := hS_
   refine norm_ (a' := ?_) ?_ ?_; rotate_left
   · simp only [putAll, Act.put, sa_, s0_, s1_]; rfl
   refine one_ (i := 7) (N := none) (b_ 9 255) rfl rfl (one_of HT_.out (by kernel_rfl)) (by decide) (fun K hK => ?_)
   have hs69 : w68.cell? ⟨gb351, 0, none⟩ = some (.int .u8 0) := ck_ BK351 0
   have hfs69 := blk_frozen BK351.out 0
   have hns69_0 := NB314_351.out
   have hns69_1 := NB315_351.out
   have hns69_2 := NB327_351.out
   have hns69_3 := NB339_351.out
   have hms69_0 := NB351_314.out
   have hms69_1 := NB351_315.out
   have hms69_2 := NB351_327.out
   have hms69_3 := NB351_339.out
   have hs70 : w68.cell? ⟨gb351, 1, none⟩ = some (.int .i64 0) := ck_ BK351 1
   have hfs70 := blk_frozen BK351.out 1
   have hns70_0 := NB314_351.out
   have hns70_1 := NB315_351.out
   have hns70_2 := NB327_351.out
   have hns70_3 := NB339_351.out
   have hms70_0 := NB351_314.out
   have hms70_1 := NB351_315.out
   have hms70_2 := NB351_327.out
   have hms70_3 := NB351_339.out
   have hs71 : w68.cell? ⟨gb351, 2, none⟩ = some (.int .i64 0) := ck_ BK351 2
   have hfs71 := blk_frozen BK351.out 2
   have hns71_0 := NB314_351.out
   have hns71_1 := NB315_351.out
   have hns71_2 := NB327_351.out
   have hns71_3 := NB339_351.out
   have hms71_0 := NB351_314.out
   have hms71_1 := NB351_315.out
   have hms71_2 := NB351_327.out
   have hms71_3 := NB351_339.out
   have hs72 : w68.cell? ⟨gb351, 3, none⟩ = some (.int .i64 0) := ck_ BK351 3
   have hfs72 := blk_frozen BK351.out 3
   have hns72_0 := NB314_351.out
   have hns72_1 := NB315_351.out
   have hns72_2 := NB327_351.out
   have hns72_3 := NB339_351.out
   have hms72_0 := NB351_314.out
   have hms72_1 := NB351_315.out
   have hms72_2 := NB351_327.out
   have hms72_3 := NB351_339.out
   have hs73 : w68.cell? ⟨gb351, 4, none⟩ = some (.int .i64 0) := ck_ BK351 4
   have hfs73 := blk_frozen BK351.out 4
   have hns73_0 := NB314_351.out
   have hns73_1 := NB315_351.out
   have hns73_2 := NB327_351.out
   have hns73_3 := NB339_351.out
   have hms73_0 := NB351_314.out
   have hms73_1 := NB351_315.out
   have hms73_2 := NB351_327.out
   have hms73_3 := NB351_339.out
   refine skip_ (w1 := ?_) (by rfl) rfl ?_ ?_; rotate_left
   · go_simp; rfl
   refine hK.out _ _ ⟨((cell_far (p := ⟨gb351, _, none⟩) NB314_351.out _).trans (((cell_far (p := ⟨gb351, _, none⟩) NB314_351.out _).trans (((cell_far (p := ⟨gb351, _, none⟩) NB314_351.out _).trans (((cell_far (p := ⟨gb351, _, none⟩) NB314_351.out _).trans (((cell_far (p := ⟨gb351, _, none⟩) NB314_351.out _).trans (hHeld.1)))))))))), ((cell_far (p := ⟨gb351, _, none⟩) NB314_351.out _).trans (((cell_far (p := ⟨gb351, _, none⟩) NB314_351.out _).trans (((cell_far (p := ⟨gb351, _, none⟩) NB314_351.out _).trans (((cell_far (p := ⟨gb351, _, none⟩) NB314_351.out _).trans (((cell_far (p := ⟨gb351, _, none⟩) NB314_351.out _).trans (hHeld.2.1)))))))))), ((cell_far (p := ⟨gb351, _, none⟩) NB314_351.out _).trans (((cell_far (p := ⟨gb351, _, none⟩) NB314_351.out _).trans (((cell_far (p := ⟨gb351, _, none⟩) NB314_351.out _).trans (((cell_far (p := ⟨gb351, _, none⟩) NB314_351.out _).trans (((cell_far (p := ⟨gb351, _, none⟩) NB314_351.out _).trans (hHeld.2.2.1)))))))))), ((cell_far (p := ⟨gb351, _, none⟩) NB314_351.out _).trans (((cell_far (p := ⟨gb351, _, none⟩) NB314_351.out _).trans (((cell_far (p := ⟨gb351, _, none⟩) NB314_351.out _).trans (((cell_far (p := ⟨gb351, _, none⟩) NB314_351.out _).trans (((cell_far (p := ⟨gb351, _, none⟩) NB314_351.out _).trans (hHeld.2.2.2.1)))))))))), ((cell_far (p := ⟨gb351, _, none⟩) NB314_351.out _).trans (((cell_far (p := ⟨gb351, _, none⟩) NB314_351.out _).trans (((cell_far (p := ⟨gb351, _, none⟩) NB314_351.out _).trans (((cell_far (p := ⟨gb351, _, none⟩) NB314_351.out _).trans (((cell_far (p := ⟨gb351, _, none⟩) NB314_351.out _).trans (hHeld.2.2.2.2))))))))))⟩ (fun hHeld => ?_)
   clear hK K
   refine pA_ 8 15 ?_ (b_ 9 511) (any_of HT_.out (by kernel_rfl)) rfl rfl (fun _ _ _ h => h) (by rfl) ?_ ?_ ?_ ?_; rotate_left
   · intro w'; go_simp; with_reducible rfl
   rotate_left
   · simp only [Act.put, sa_, s0_, s1_, i64_w, i32_w]; rfl
   refine done_ (done_of HT_.out (by kernel_rfl)) ?_
   try go_wp2
   have n0_ : Aside0 (Kd.R (Kd.int .i64) 3 (((((w68.setCell ⟨gb351, 0, none⟩ (.int .u8 t345)).setCell ⟨gb351, 1, none⟩ (.int .i64 t346)).setCell ⟨gb351, 2, none⟩ (.int .i64 t347)).setCell ⟨gb351, 3, none⟩ (.int .i64 t348)).setCell ⟨gb351, 4, none⟩ (.int .i64 t349)) w.heap.size (fun k_ => some k_ ≠ (.slice Ao55 t328.length co55 : Value).ownBlock ∧ some k_ ≠ (v341 : Value).ownBlock) v317 t316) := ⟨rr_ (Kd.R_mono (Kd.R_far (p := ⟨gb351, 4, none⟩) (Kd.R_far (p := ⟨gb351, 3, none⟩) (Kd.R_far (p := ⟨gb351, 2, none⟩) (Kd.R_far (p := ⟨gb351, 1, none⟩) (Kd.R_far (p := ⟨gb351, 0, none⟩) (Kd.R_types HO318.out BK351.out (by decide)) (fun _ hk => hk.2) (.int .u8 t345)) (fun _ hk => hk.2) (.int .i64 t346)) (fun _ hk => hk.2) (.int .i64 t347)) (fun _ hk => hk.2) (.int .i64 t348)) (fun _ hk => hk.2) (.int .i64 t349)) (fun _ hk => ⟨hk.1.1, hk.1.2⟩))⟩
   have n1_ : Aside0 (Kd.R (Kd.int .i64) 3 (((((w68.setCell ⟨gb351, 0, none⟩ (.int .u8 t345)).setCell ⟨gb351, 1, none⟩ (.int .i64 t346)).setCell ⟨gb351, 2, none⟩ (.int .i64 t347)).setCell ⟨gb351, 3, none⟩ (.int .i64 t348)).setCell ⟨gb351, 4, none⟩ (.int .i64 t349)) w.heap.size (fun k_ => some k_ ≠ (v317 : Value).ownBlock ∧ some k_ ≠ (v341 : Value).ownBlock) (.slice Ao55 t328.length co55) t328) := ⟨rr_ (Kd.R_mono (Kd.R_far (p := ⟨gb351, 4, none⟩) (Kd.R_far (p := ⟨gb351, 3, none⟩) (Kd.R_far (p := ⟨gb351, 2, none⟩) (Kd.R_far (p := ⟨gb351, 1, none⟩) (Kd.R_far (p := ⟨gb351, 0, none⟩) (Kd.R_types HO330.out BK351.out (by decide)) (fun _ hk => hk.2) (.int .u8 t345)) (fun _ hk => hk.2) (.int .i64 t346)) (fun _ hk => hk.2) (.int .i64 t347)) (fun _ hk => hk.2) (.int .i64 t348)) (fun _ hk => hk.2) (.int .i64 t349)) (fun _ hk => ⟨hk.1.1, hk.1.2⟩))⟩
   have n2_ : Aside0 (Kd.R (Kd.int .i64) 3 (((((w68.setCell ⟨gb351, 0, none⟩ (.int .u8 t345)).setCell ⟨gb351, 1, none⟩ (.int .i64 t346)).setCell ⟨gb351, 2, none⟩ (.int .i64 t347)).setCell ⟨gb351, 3, none⟩ (.int .i64 t348)).setCell ⟨gb351, 4, none⟩ (.int .i64 t349)) w.heap.size (fun k_ => some k_ ≠ (v317 : Value).ownBlock ∧ some k_ ≠ (.slice Ao55 t328.length co55 : Value).ownBlock) v341 t340) := ⟨rr_ (Kd.R_mono (Kd.R_far (p := ⟨gb351, 4, none⟩) (Kd.R_far (p := ⟨gb351, 3, none⟩) (Kd.R_far (p := ⟨gb351, 2, none⟩) (Kd.R_far (p := ⟨gb351, 1, none⟩) (Kd.R_far (p := ⟨gb351, 0, none⟩) (Kd.R_types HO342.out BK351.out (by decide)) (fun _ hk => hk.2) (.int .u8 t345)) (fun _ hk => hk.2) (.int .i64 t346)) (fun _ hk => hk.2) (.int .i64 t347)) (fun _ hk => hk.2) (.int .i64 t348)) (fun _ hk => hk.2) (.int .i64 t349)) (fun _ hk => ⟨hk.1.1, hk.1.2⟩))⟩
   have n3_ : Aside0 ((((((w68.setCell ⟨gb351, 0, none⟩ (.int .u8 t345)).setCell ⟨gb351, 1, none⟩ (.int .i64 t346)).setCell ⟨gb351, 2, none⟩ (.int .i64 t347)).setCell ⟨gb351, 3, none⟩ (.int .i64 t348)).setCell ⟨gb351, 4, none⟩ (.int .i64 t349)).heap[gb314]? = some (.cells #[.int .u8 2, .int .i64 1, .int .i64 30, .int .i64 4, .int .i64 0] 31 (0, 0))) := ⟨bf_⟩
   have n4_ : Aside0 ((((((w68.setCell ⟨gb351, 0, none⟩ (.int .u8 t345)).setCell ⟨gb351, 1, none⟩ (.int .i64 t346)).setCell ⟨gb351, 2, none⟩ (.int .i64 t347)).setCell ⟨gb351, 3, none⟩ (.int .i64 t348)).setCell ⟨gb351, 4, none⟩ (.int .i64 t349)).heap[gb315]? = some (.cells #[.int .u8 3, .int .i64 1, .int .i64 17, .int .i64 0, .int .i64 0] 31 (0, 0))) := ⟨bf_⟩
   have n5_ : Aside0 ((((((w68.setCell ⟨gb351, 0, none⟩ (.int .u8 t345)).setCell ⟨gb351, 1, none⟩ (.int .i64 t346)).setCell ⟨gb351, 2, none⟩ (.int .i64 t347)).setCell ⟨gb351, 3, none⟩ (.int .i64 t348)).setCell ⟨gb351, 4, none⟩ (.int .i64 t349)).heap[gb327]? = some (.cells #[.int .u8 t321, .int .i64 t322, .int .i64 t323, .int .i64 t324, .int .i64 t325] 31 (0, 0))) := ⟨bf_⟩
   have n6_ : Aside0 ((((((w68.setCell ⟨gb351, 0, none⟩ (.int .u8 t345)).setCell ⟨gb351, 1, none⟩ (.int .i64 t346)).setCell ⟨gb351, 2, none⟩ (.int .i64 t347)).setCell ⟨gb351, 3, none⟩ (.int .i64 t348)).setCell ⟨gb351, 4, none⟩ (.int .i64 t349)).heap[gb339]? = some (.cells #[.int .u8 t333, .int .i64 t334, .int .i64 t335, .int .i64 t336, .int .i64 t337] 31 (0, 0))) := ⟨bf_⟩
   have n7_ : Aside0 ((((((w68.setCell ⟨gb351, 0, none⟩ (.int .u8 t345)).setCell ⟨gb351, 1, none⟩ (.int .i64 t346)).setCell ⟨gb351, 2, none⟩ (.int .i64 t347)).setCell ⟨gb351, 3, none⟩ (.int .i64 t348)).setCell ⟨gb351, 4, none⟩ (.int .i64 t349)).heap[gb351]? = some (.cells #[.int .u8 t345, .int .i64 t346, .int .i64 t347, .int .i64 t348, .int .i64 t349] 31 (0, 0))) := ⟨by (with_reducible repeat (first | refine blk_drewN ?_ _ | refine blk_drew ?_ | refine blk_alloc ?_ _)); refine blk_put (cs := #[.int .u8 t345, .int .i64 t346, .int .i64 t347, .int .i64 t348, .int .i64 0]) ?_ 4 _ rfl; (with_reducible repeat (first | refine blk_drewN ?_ _ | refine blk_drew ?_ | refine blk_alloc ?_ _)); refine blk_put (cs := #[.int .u8 t345, .int .i64 t346, .int .i64 t347, .int .i64 0, .int .i64 0]) ?_ 3 _ rfl; (with_reducible repeat (first | refine blk_drewN ?_ _ | refine blk_drew ?_ | refine blk_alloc ?_ _)); refine blk_put (cs := #[.int .u8 t345, .int .i64 t346, .int .i64 0, .int .i64 0, .int .i64 0]) ?_ 2 _ rfl; (with_reducible repeat (first | refine blk_drewN ?_ _ | refine blk_drew ?_ | refine blk_alloc ?_ _)); refine blk_put (cs := #[.int .u8 t345, .int .i64 0, .int .i64 0, .int .i64 0, .int .i64 0]) ?_ 1 _ rfl; (with_reducible repeat (first | refine blk_drewN ?_ _ | refine blk_drew ?_ | refine blk_alloc ?_ _)); refine blk_put (cs := #[.int .u8 0, .int .i64 0, .int .i64 0, .int .i64 0, .int .i64 0]) ?_ 0 _ rfl; (with_reducible repeat (first | refine blk_drewN ?_ _ | refine blk_drew ?_ | refine blk_alloc ?_ _)); exact BK351.out⟩
   have n8_ : Aside0 (Below w.heap.size w (((((w68.setCell ⟨gb351, 0, none⟩ (.int .u8 t345)).setCell ⟨gb351, 1, none⟩ (.int .i64 t346)).setCell ⟨gb351, 2, none⟩ (.int .i64 t347)).setCell ⟨gb351, 3, none⟩ (.int .i64 t348)).setCell ⟨gb351, 4, none⟩ (.int .i64 t349))) := ⟨hq_⟩
   (try clear HO318)
   (try clear HO330)
   (try clear HO342)
   (try clear BK314)
   (try clear BK315)
   (try clear BK327)
   (try clear BK339)
   (try clear BK351)
   (try clear HB)
   generalize (((((w68.setCell ⟨gb351, 0, none⟩ (.int .u8 t345)).setCell ⟨gb351, 1, none⟩ (.int .i64 t346)).setCell ⟨gb351, 2, none⟩ (.int .i64 t347)).setCell ⟨gb351, 3, none⟩ (.int .i64 t348)).setCell ⟨gb351, 4, none⟩ (.int .i64 t349)) = w74 at n0_ n1_ n2_ n3_ n4_ n5_ n6_ n7_ n8_ ⊢
   have HO318 := n0_
   have HO330 := n1_
   have HO342 := n2_
   have BK314 := n3_
   have BK315 := n4_
   have BK327 := n5_
   have BK339 := n6_
   have BK351 := n7_
   have HB := n8_
   clear n0_ n1_ n2_ n3_ n4_ n5_ n6_ n7_ n8_
   replace HO318 := Aside0.mk (Kd.R_drew HO318.out)
   replace HO330 := Aside0.mk (Kd.R_drew HO330.out)
   replace HO342 := Aside0.mk (Kd.R_drew HO342.out)
   replace BK314 := Aside0.mk (blk_drew BK314.out)
   replace BK315 := Aside0.mk (blk_drew BK315.out)
   replace BK327 := Aside0.mk (blk_drew BK327.out)
   replace BK339 := Aside0.mk (blk_drew BK339.out)
   replace BK351 := Aside0.mk (blk_drew BK351.out)
   replace HB := Aside0.mk (below_drew1 HB.out)
   refine start_ (n := 9) (S := fun w' => w'.cell? ⟨gb314, 0, none⟩ = some (.int .u8 2) ∧ w'.cell? ⟨gb314, 1, none⟩ = some (.int .i64 1) ∧ w'.cell? ⟨gb314, 2, none⟩ = some (.int .i64 30) ∧ w'.cell? ⟨gb314, 3, none⟩ = some (.int .i64 4) ∧ w'.cell? ⟨gb314, 4, none⟩ = some (.int .i64 0)) (ds := []) (b_ 9 0) (by kernel_rfl) rfl rfl ⟨ck_ BK314 0, ck_ BK314 1, ck_ BK314 2, ck_ BK314 3, ck_ BK314 4⟩ (fun hHeld => ?_); refine with_tabW millhandlaw24_TaskNames.tab10 millhandlaw24_TaskNames.bits10 (fun HT_ HW_ => ?_)
   generalize w74.drew = w75 at HO318 HO330 HO342 BK314 BK315 BK327 BK339 BK351 HB hHeld ⊢
   refine tA_ 1 88 ?_ (b_ 9 2) (take_ofW HT_.out HW_.out (by kernel_rfl)) rfl rfl (fun _ _ _ h => h) (by rfl) ?_ hHeld ?_ ?_ ?_; rotate_left
   · rintro w' ⟨s0, s1, s2, s3, s4⟩; go_simp; with_reducible rfl
   rotate_left
   · simp only [Act.put, sa_, s0_, s1_, i64_w, i32_w]; rfl
   refine join_ (σ := Value × Nat) 2 (b_ 9 127) (fun s_ => [(87, .agg #[s_.1, .int .i64 t355, .int .i64 t356]), (89, .tuple #[.agg #[.int .u8 t357, .int .i64 t358, .int .i64 t359, .int .i64 t360, .int .i64 t361], .int .i64 t362]), (16, .pointer (some ⟨s_.2, 0, none⟩)), (86, .tuple #[.agg #[.int .u8 t357, .int .i64 t358, .int .i64 t359, .int .i64 t360, .int .i64 t361], .int .i64 t362]), (90, .agg #[.int .u8 t357, .int .i64 t358, .int .i64 t359, .int .i64 t360, .int .i64 t361]), (91, .int .i64 t362)]) (fun s_ w' => (w'.cell? ⟨gb314, 0, none⟩ = some (.int .u8 2) ∧ w'.cell? ⟨gb314, 1, none⟩ = some (.int .i64 1) ∧ w'.cell? ⟨gb314, 2, none⟩ = some (.int .i64 30) ∧ w'.cell? ⟨gb314, 3, none⟩ = some (.int .i64 4) ∧ w'.cell? ⟨gb314, 4, none⟩ = some (.int .i64 0)) ∧ (Kd.R (Kd.int .i64) 3 w' w.heap.size (fun k_ => some k_ ≠ (.slice Ao55 t328.length co55 : Value).ownBlock ∧ some k_ ≠ (v341 : Value).ownBlock ∧ some k_ ≠ (s_.1 : Value).ownBlock) v317 t316) ∧ (Kd.R (Kd.int .i64) 3 w' w.heap.size (fun k_ => some k_ ≠ (v317 : Value).ownBlock ∧ some k_ ≠ (v341 : Value).ownBlock ∧ some k_ ≠ (s_.1 : Value).ownBlock) (.slice Ao55 t328.length co55) t328) ∧ (Kd.R (Kd.int .i64) 3 w' w.heap.size (fun k_ => some k_ ≠ (v317 : Value).ownBlock ∧ some k_ ≠ (.slice Ao55 t328.length co55 : Value).ownBlock ∧ some k_ ≠ (s_.1 : Value).ownBlock) v341 t340) ∧ (Kd.R (Kd.int .i64) 3 w' w.heap.size (fun k_ => some k_ ≠ (v317 : Value).ownBlock ∧ some k_ ≠ (.slice Ao55 t328.length co55 : Value).ownBlock ∧ some k_ ≠ (v341 : Value).ownBlock) s_.1 t352) ∧ (w'.heap[gb314]? = some (.cells #[.int .u8 2, .int .i64 1, .int .i64 30, .int .i64 4, .int .i64 0] 31 (0, 0))) ∧ (w'.heap[gb315]? = some (.cells #[.int .u8 3, .int .i64 1, .int .i64 17, .int .i64 0, .int .i64 0] 31 (0, 0))) ∧ (w'.heap[gb327]? = some (.cells #[.int .u8 t321, .int .i64 t322, .int .i64 t323, .int .i64 t324, .int .i64 t325] 31 (0, 0))) ∧ (w'.heap[gb339]? = some (.cells #[.int .u8 t333, .int .i64 t334, .int .i64 t335, .int .i64 t336, .int .i64 t337] 31 (0, 0))) ∧ (w'.heap[gb351]? = some (.cells #[.int .u8 t345, .int .i64 t346, .int .i64 t347, .int .i64 t348, .int .i64 t349] 31 (0, 0))) ∧ (w'.heap[s_.2]? = some (.cells #[.int .u8 0, .int .i64 0, .int .i64 0, .int .i64 0, .int .i64 0] 31 (0, 0))) ∧ (w.heap.size ≤ s_.2) ∧ (w.heap.size ≤ s_.2) ∧ (gb314 ≠ s_.2) ∧ (s_.2 ≠ gb314) ∧ (gb315 ≠ s_.2) ∧ (s_.2 ≠ gb315) ∧ (gb327 ≠ s_.2) ∧ (s_.2 ≠ gb327) ∧ (gb339 ≠ s_.2) ∧ (s_.2 ≠ gb339) ∧ (gb351 ≠ s_.2) ∧ (s_.2 ≠ gb351) ∧ (Below w.heap.size w w')) ?_ ?_
   rotate_left
   ·
    intro hCont
    refine two_ (i := 0) (j := 6) (Ni := some 87) (Nj := some 16) (b_ 9 3) (b_ 9 66) rfl rfl rfl rfl (two_of HT_.out (by kernel_rfl)) (by decide) (by decide) (fun K hK => ?_) (fun K hK => ?_)
    ·
     skip
     refine goes_ Try.func11 (by kernel_rfl) rfl #[] (by rfl) rfl rfl (by (try simp only [List.map_toArray, List.map_cons, List.map_nil]); first | done | rfl | (simp only [List.length_drop, List.length_take]; rfl)) ?_
     with_reducible refine (millhandlaw24_node.calls  t352 t355 t356 _ A28.out).mono ?_
     rintro e w76 ⟨v353, rfl, ho0, hb⟩
     refine ⟨_, rfl, ?_⟩
     have HO354 := Aside0.mk (Kd.R_lower (Kd.R_new' (Kd.R_new' (Kd.R_new' ho0 (Kd.R_lt (rr_ HO318.out))) (Kd.R_lt (rr_ HO330.out))) (Kd.R_lt (rr_ HO342.out))) (below_size (hB_ HB.out)))
     replace HO318 := Aside0.mk (Kd.R_elder' (rr_ HO318.out) (Kd.R_base ho0) hb)
     replace HO330 := Aside0.mk (Kd.R_elder' (rr_ HO330.out) (Kd.R_base ho0) hb)
     replace HO342 := Aside0.mk (Kd.R_elder' (rr_ HO342.out) (Kd.R_base ho0) hb)
     replace BK314 := bs_ BK314 hb
     replace BK315 := bs_ BK315 hb
     replace BK327 := bs_ BK327 hb
     replace BK339 := bs_ BK339 hb
     replace BK351 := bs_ BK351 hb
     replace HB := Aside0.mk (below_step (hB_ HB.out) hb)
     (try clear hb)
     (try clear hb2)
     (try clear hk)
     (try clear hi)
     (try clear ho0)
     obtain ⟨Ao77, co77, eo77⟩ := Kd.R_slice HO354.out
     (first | subst eo77 | (injection eo77 with f1_ f2_ f3_; have f4_ := f1_.symm; have f5_ := f3_.symm; clear f1_ f2_ f3_; subst f4_; subst f5_))
     refine hK.out _ _ ⟨ck_ BK314 0, ck_ BK314 1, ck_ BK314 2, ck_ BK314 3, ck_ BK314 4⟩ (fun hHeld => ?_)
     clear hK K
     refine norm_ (a' := ?_) ?_ ?_
     rotate_left
     ·
      show Act.put _ (some 87) _ = _
      simp only [Act.put, sa_, s0_, s1_, i64_w, i32_w]
      rfl
     refine two_ (i := 2) (j := 6) (Ni := some 89) (Nj := some 16) (b_ 9 7) (b_ 9 67) rfl rfl rfl rfl (two_of HT_.out (by kernel_rfl)) (by decide) (by decide) (fun K hK => ?_) (fun K hK => ?_)
     ·
      skip
      refine goes_ Try.func14 (by kernel_rfl) rfl #[.agg #[.slice Ao77 t352.length co77, .int .i64 t355, .int .i64 t356], .agg #[.int .u8 2, .int .i64 1, .int .i64 30, .int .i64 4, .int .i64 0], .int .i64 29] (by rfl) rfl rfl (by (try simp only [List.map_toArray, List.map_cons, List.map_nil]); first | done | rfl | (simp only [List.length_drop, List.length_take]; rfl)) ?_
      with_reducible refine (task_Lapse.calls kj6 _ _ t352 t355 t356 2 1 30 4 0 29 t357 t358 t359 t360 t361 t362 _ ?side1 ?side2 A29.out).mono ?_
      (case side1 => repeat (first | exact (Kd.R_reads' HO354.out).2.2 | (with_reducible refine Kd.C_alloc ?_ _) | (with_reducible refine Kd.C_drewN ?_ _) | (with_reducible refine Kd.C_drew ?_)))
      (case side2 => exact (Kd.R_reads' HO354.out).2.1)
      rintro e w78 ⟨rfl, hb⟩
      refine ⟨_, rfl, ?_⟩
      replace HO318 := Aside0.mk (Kd.R_below (rr_ HO318.out) hb)
      replace HO330 := Aside0.mk (Kd.R_below (rr_ HO330.out) hb)
      replace HO342 := Aside0.mk (Kd.R_below (rr_ HO342.out) hb)
      replace HO354 := Aside0.mk (Kd.R_below (rr_ HO354.out) hb)
      replace BK314 := bs_ BK314 hb
      replace BK315 := bs_ BK315 hb
      replace BK327 := bs_ BK327 hb
      replace BK339 := bs_ BK339 hb
      replace BK351 := bs_ BK351 hb
      replace HB := Aside0.mk (below_step (hB_ HB.out) hb)
      (try clear hb)
      (try clear hb2)
      (try clear hk)
      (try clear hi)
      refine hK.out _ _ ⟨ck_ BK314 0, ck_ BK314 1, ck_ BK314 2, ck_ BK314 3, ck_ BK314 4⟩ (fun hHeld => ?_)
      clear hK K
      refine norm_ (a' := ?_) ?_ ?_
      rotate_left
      ·
       show Act.put _ (some 89) _ = _
       simp only [Act.put, sa_, s0_, s1_, i64_w, i32_w]
       rfl
      refine pA_ 3 86 ?_ (b_ 9 15) (any_of HT_.out (by kernel_rfl)) rfl rfl (fun _ _ _ h => h) (by rfl) ?_ ?_ ?_ ?_; rotate_left
      · intro w'; go_simp; with_reducible rfl
      rotate_left
      · simp only [Act.put, sa_, s0_, s1_, i64_w, i32_w]; rfl
      refine pA_ 4 90 ?_ (b_ 9 31) (any_of HT_.out (by kernel_rfl)) rfl rfl (fun _ _ _ h => h) (by rfl) ?_ ?_ ?_ ?_; rotate_left
      · intro w'; go_simp; with_reducible rfl
      rotate_left
      · simp only [Act.put, sa_, s0_, s1_, i64_w, i32_w]; rfl
      refine pA_ 5 91 ?_ (b_ 9 63) (any_of HT_.out (by kernel_rfl)) rfl rfl (fun _ _ _ h => h) (by rfl) ?_ ?_ ?_ ?_; rotate_left
      · intro w'; go_simp; with_reducible rfl
      rotate_left
      · simp only [Act.put, sa_, s0_, s1_, i64_w, i32_w]; rfl
      refine one_ (i := 6) (N := some 16) (b_ 9 127) rfl rfl (one_of HT_.out (by kernel_rfl)) (by decide) (fun K hK => ?_)
      refine box_step ?hg (N := 16) ?hd (cs := #[.int .u8 0, .int .i64 0, .int .i64 0, .int .i64 0, .int .i64 0]) (t := 31) ?hr ?_; (case hd => rfl); (case hg => rfl); (case hr => first | (go_simp; done) | (go_simp; rfl))
      intro gb363 hg w79 hbox hb
      replace HO318 := Aside0.mk (Kd.R_below (rr_ HO318.out) hb)
      replace HO330 := Aside0.mk (Kd.R_below (rr_ HO330.out) hb)
      replace HO342 := Aside0.mk (Kd.R_below (rr_ HO342.out) hb)
      replace HO354 := Aside0.mk (Kd.R_below (rr_ HO354.out) hb)
      have BK363 := Aside0.mk (hbox)
      have GW363 := bz_ (hB_ HB.out) hg
      have GE363 := bz_ (hB_ HB.out) hg
      replace HB := Aside0.mk (below_step (hB_ HB.out) hb)
      have NB314_363 := bn_ BK314 hg
      have NB363_314 := bm_ BK314 hg
      replace BK314 := bs_ BK314 hb
      have NB315_363 := bn_ BK315 hg
      have NB363_315 := bm_ BK315 hg
      replace BK315 := bs_ BK315 hb
      have NB327_363 := bn_ BK327 hg
      have NB363_327 := bm_ BK327 hg
      replace BK327 := bs_ BK327 hb
      have NB339_363 := bn_ BK339 hg
      have NB363_339 := bm_ BK339 hg
      replace BK339 := bs_ BK339 hb
      have NB351_363 := bn_ BK351 hg
      have NB363_351 := bm_ BK351 hg
      replace BK351 := bs_ BK351 hb
      clear hb hbox hg
      refine hK.out _ _ ⟨ck_ BK314 0, ck_ BK314 1, ck_ BK314 2, ck_ BK314 3, ck_ BK314 4⟩ (fun hHeld => ?_)
      clear hK K
      refine norm_ (a' := ?_) ?_ ?_
      rotate_left
      ·
       show Act.put _ (some 16) _ = _
       simp only [Act.put, sa_, s0_, s1_, i64_w, i32_w]
       rfl
      exact norm_ (by simp only [putAll, Act.put, sa_, s0_, s1_]) (hCont (.slice Ao77 t352.length co77, gb363) _ ⟨hHeld, (rr_ (Kd.R_mono HO318.out (fun _ hk => ⟨hk.1.1, ⟨hk.1.2, hk.2⟩⟩))), (rr_ (Kd.R_mono HO330.out (fun _ hk => ⟨hk.1.1, ⟨hk.1.2, hk.2⟩⟩))), (rr_ (Kd.R_mono HO342.out (fun _ hk => ⟨hk.1.1, ⟨hk.1.2, hk.2⟩⟩))), (rr_ (Kd.R_mono HO354.out (fun _ hk => ⟨hk.1.1.2, ⟨hk.1.2, hk.2⟩⟩))), bq_, bq_, bq_, bq_, bq_, bq_, GW363.out, GE363.out, NB314_363.out, NB363_314.out, NB315_363.out, NB363_315.out, NB327_363.out, NB363_327.out, NB339_363.out, NB363_339.out, NB351_363.out, NB363_351.out, hq_⟩)
     ·
      skip
      refine box_step ?hg (N := 16) ?hd (cs := #[.int .u8 0, .int .i64 0, .int .i64 0, .int .i64 0, .int .i64 0]) (t := 31) ?hr ?_; (case hd => rfl); (case hg => rfl); (case hr => first | (go_simp; done) | (go_simp; rfl))
      intro gb363 hg w77 hbox hb
      replace HO318 := Aside0.mk (Kd.R_below (rr_ HO318.out) hb)
      replace HO330 := Aside0.mk (Kd.R_below (rr_ HO330.out) hb)
      replace HO342 := Aside0.mk (Kd.R_below (rr_ HO342.out) hb)
      replace HO354 := Aside0.mk (Kd.R_below (rr_ HO354.out) hb)
      have BK363 := Aside0.mk (hbox)
      have GW363 := bz_ (hB_ HB.out) hg
      have GE363 := bz_ (hB_ HB.out) hg
      replace HB := Aside0.mk (below_step (hB_ HB.out) hb)
      have NB314_363 := bn_ BK314 hg
      have NB363_314 := bm_ BK314 hg
      replace BK314 := bs_ BK314 hb
      have NB315_363 := bn_ BK315 hg
      have NB363_315 := bm_ BK315 hg
      replace BK315 := bs_ BK315 hb
      have NB327_363 := bn_ BK327 hg
      have NB363_327 := bm_ BK327 hg
      replace BK327 := bs_ BK327 hb
      have NB339_363 := bn_ BK339 hg
      have NB363_339 := bm_ BK339 hg
      replace BK339 := bs_ BK339 hb
      have NB351_363 := bn_ BK351 hg
      have NB363_351 := bm_ BK351 hg
      replace BK351 := bs_ BK351 hb
      clear hb hbox hg
      obtain ⟨Ao78, co78, eo78⟩ := Kd.R_slice HO354.out
      (first | subst eo78 | (injection eo78 with f1_ f2_ f3_; have f4_ := f1_.symm; have f5_ := f3_.symm; clear f1_ f2_ f3_; subst f4_; subst f5_))
      refine hK.out _ _ ⟨ck_ BK314 0, ck_ BK314 1, ck_ BK314 2, ck_ BK314 3, ck_ BK314 4⟩ (fun hHeld => ?_)
      clear hK K
      refine norm_ (a' := ?_) ?_ ?_
      rotate_left
      ·
       show Act.put _ (some 16) _ = _
       simp only [Act.put, sa_, s0_, s1_, i64_w, i32_w]
       rfl
      refine one_ (i := 2) (N := some 89) (b_ 9 71) rfl rfl (one_of HT_.out (by kernel_rfl)) (by decide) (fun K hK => ?_)
      refine goes_ Try.func14 (by kernel_rfl) rfl #[.agg #[.slice Ao78 t352.length co78, .int .i64 t355, .int .i64 t356], .agg #[.int .u8 2, .int .i64 1, .int .i64 30, .int .i64 4, .int .i64 0], .int .i64 29] (by rfl) rfl rfl (by (try simp only [List.map_toArray, List.map_cons, List.map_nil]); first | done | rfl | (simp only [List.length_drop, List.length_take]; rfl)) ?_
      with_reducible refine (task_Lapse.calls kj6 _ _ t352 t355 t356 2 1 30 4 0 29 t357 t358 t359 t360 t361 t362 _ ?side1 ?side2 A29.out).mono ?_
      (case side1 => repeat (first | exact (Kd.R_reads' HO354.out).2.2 | (with_reducible refine Kd.C_alloc ?_ _) | (with_reducible refine Kd.C_drewN ?_ _) | (with_reducible refine Kd.C_drew ?_)))
      (case side2 => exact (Kd.R_reads' HO354.out).2.1)
      rintro e w79 ⟨rfl, hb⟩
      refine ⟨_, rfl, ?_⟩
      replace HO318 := Aside0.mk (Kd.R_below (rr_ HO318.out) hb)
      replace HO330 := Aside0.mk (Kd.R_below (rr_ HO330.out) hb)
      replace HO342 := Aside0.mk (Kd.R_below (rr_ HO342.out) hb)
      replace HO354 := Aside0.mk (Kd.R_below (rr_ HO354.out) hb)
      replace BK314 := bs_ BK314 hb
      replace BK315 := bs_ BK315 hb
      replace BK327 := bs_ BK327 hb
      replace BK339 := bs_ BK339 hb
      replace BK351 := bs_ BK351 hb
      replace BK363 := bs_ BK363 hb
      replace HB := Aside0.mk (below_step (hB_ HB.out) hb)
      (try clear hb)
      (try clear hb2)
      (try clear hk)
      (try clear hi)
      refine hK.out _ _ ⟨ck_ BK314 0, ck_ BK314 1, ck_ BK314 2, ck_ BK314 3, ck_ BK314 4⟩ (fun hHeld => ?_)
      clear hK K
      refine norm_ (a' := ?_) ?_ ?_
      rotate_left
      ·
       show Act.put _ (some 89) _ = _
       simp only [Act.put, sa_, s0_, s1_, i64_w, i32_w]
       rfl
      refine pA_ 3 86 ?_ (b_ 9 79) (any_of HT_.out (by kernel_rfl)) rfl rfl (fun _ _ _ h => h) (by rfl) ?_ ?_ ?_ ?_; rotate_left
      · intro w'; go_simp; with_reducible rfl
      rotate_left
      · simp only [Act.put, sa_, s0_, s1_, i64_w, i32_w]; rfl
      refine pA_ 4 90 ?_ (b_ 9 95) (any_of HT_.out (by kernel_rfl)) rfl rfl (fun _ _ _ h => h) (by rfl) ?_ ?_ ?_ ?_; rotate_left
      · intro w'; go_simp; with_reducible rfl
      rotate_left
      · simp only [Act.put, sa_, s0_, s1_, i64_w, i32_w]; rfl
      refine pA_ 5 91 ?_ (b_ 9 127) (any_of HT_.out (by kernel_rfl)) rfl rfl (fun _ _ _ h => h) (by rfl) ?_ ?_ ?_ ?_; rotate_left
      · intro w'; go_simp; with_reducible rfl
      rotate_left
      · simp only [Act.put, sa_, s0_, s1_, i64_w, i32_w]; rfl
      exact norm_ (by simp only [putAll, Act.put, sa_, s0_, s1_]) (hCont (.slice Ao78 t352.length co78, gb363) _ ⟨hHeld, (rr_ (Kd.R_mono HO318.out (fun _ hk => ⟨hk.1.1, ⟨hk.1.2, hk.2⟩⟩))), (rr_ (Kd.R_mono HO330.out (fun _ hk => ⟨hk.1.1, ⟨hk.1.2, hk.2⟩⟩))), (rr_ (Kd.R_mono HO342.out (fun _ hk => ⟨hk.1.1, ⟨hk.1.2, hk.2⟩⟩))), (rr_ (Kd.R_mono HO354.out (fun _ hk => ⟨hk.1.1.2, ⟨hk.1.2, hk.2⟩⟩))), bq_, bq_, bq_, bq_, bq_, bq_, GW363.out, GE363.out, NB314_363.out, NB363_314.out, NB315_363.out, NB363_315.out, NB327_363.out, NB363_327.out, NB339_363.out, NB363_339.out, NB351_363.out, NB363_351.out, hq_⟩)
    ·
     skip
     refine box_step ?hg (N := 16) ?hd (cs := #[.int .u8 0, .int .i64 0, .int .i64 0, .int .i64 0, .int .i64 0]) (t := 31) ?hr ?_; (case hd => rfl); (case hg => rfl); (case hr => first | (go_simp; done) | (go_simp; rfl))
     intro gb363 hg w76 hbox hb
     replace HO318 := Aside0.mk (Kd.R_below (rr_ HO318.out) hb)
     replace HO330 := Aside0.mk (Kd.R_below (rr_ HO330.out) hb)
     replace HO342 := Aside0.mk (Kd.R_below (rr_ HO342.out) hb)
     have BK363 := Aside0.mk (hbox)
     have GW363 := bz_ (hB_ HB.out) hg
     have GE363 := bz_ (hB_ HB.out) hg
     replace HB := Aside0.mk (below_step (hB_ HB.out) hb)
     have NB314_363 := bn_ BK314 hg
     have NB363_314 := bm_ BK314 hg
     replace BK314 := bs_ BK314 hb
     have NB315_363 := bn_ BK315 hg
     have NB363_315 := bm_ BK315 hg
     replace BK315 := bs_ BK315 hb
     have NB327_363 := bn_ BK327 hg
     have NB363_327 := bm_ BK327 hg
     replace BK327 := bs_ BK327 hb
     have NB339_363 := bn_ BK339 hg
     have NB363_339 := bm_ BK339 hg
     replace BK339 := bs_ BK339 hb
     have NB351_363 := bn_ BK351 hg
     have NB363_351 := bm_ BK351 hg
     replace BK351 := bs_ BK351 hb
     clear hb hbox hg
     refine hK.out _ _ ⟨ck_ BK314 0, ck_ BK314 1, ck_ BK314 2, ck_ BK314 3, ck_ BK314 4⟩ (fun hHeld => ?_)
     clear hK K
     refine norm_ (a' := ?_) ?_ ?_
     rotate_left
     ·
      show Act.put _ (some 16) _ = _
      simp only [Act.put, sa_, s0_, s1_, i64_w, i32_w]
      rfl
     refine one_ (i := 0) (N := some 87) (b_ 9 67) rfl rfl (one_of HT_.out (by kernel_rfl)) (by decide) (fun K hK => ?_)
     refine goes_ Try.func11 (by kernel_rfl) rfl #[] (by rfl) rfl rfl (by (try simp only [List.map_toArray, List.map_cons, List.map_nil]); first | done | rfl | (simp only [List.length_drop, List.length_take]; rfl)) ?_
     with_reducible refine (millhandlaw24_node.calls  t352 t355 t356 _ A28.out).mono ?_
     rintro e w77 ⟨v353, rfl, ho0, hb⟩
     refine ⟨_, rfl, ?_⟩
     have HO354 := Aside0.mk (Kd.R_lower (Kd.R_new' (Kd.R_new' (Kd.R_new' ho0 (Kd.R_lt (rr_ HO318.out))) (Kd.R_lt (rr_ HO330.out))) (Kd.R_lt (rr_ HO342.out))) (below_size (hB_ HB.out)))
     replace HO318 := Aside0.mk (Kd.R_elder' (rr_ HO318.out) (Kd.R_base ho0) hb)
     replace HO330 := Aside0.mk (Kd.R_elder' (rr_ HO330.out) (Kd.R_base ho0) hb)
     replace HO342 := Aside0.mk (Kd.R_elder' (rr_ HO342.out) (Kd.R_base ho0) hb)
     replace BK314 := bs_ BK314 hb
     replace BK315 := bs_ BK315 hb
     replace BK327 := bs_ BK327 hb
     replace BK339 := bs_ BK339 hb
     replace BK351 := bs_ BK351 hb
     replace BK363 := bs_ BK363 hb
     replace HB := Aside0.mk (below_step (hB_ HB.out) hb)
     (try clear hb)
     (try clear hb2)
     (try clear hk)
     (try clear hi)
     (try clear ho0)
     obtain ⟨Ao78, co78, eo78⟩ := Kd.R_slice HO354.out
     (first | subst eo78 | (injection eo78 with f1_ f2_ f3_; have f4_ := f1_.symm; have f5_ := f3_.symm; clear f1_ f2_ f3_; subst f4_; subst f5_))
     refine hK.out _ _ ⟨ck_ BK314 0, ck_ BK314 1, ck_ BK314 2, ck_ BK314 3, ck_ BK314 4⟩ (fun hHeld => ?_)
     clear hK K
     refine norm_ (a' := ?_) ?_ ?_
     rotate_left
     ·
      show Act.put _ (some 87) _ = _
      simp only [Act.put, sa_, s0_, s1_, i64_w, i32_w]
      rfl
     refine one_ (i := 2) (N := some 89) (b_ 9 71) rfl rfl (one_of HT_.out (by kernel_rfl)) (by decide) (fun K hK => ?_)
     refine goes_ Try.func14 (by kernel_rfl) rfl #[.agg #[.slice Ao78 t352.length co78, .int .i64 t355, .int .i64 t356], .agg #[.int .u8 2, .int .i64 1, .int .i64 30, .int .i64 4, .int .i64 0], .int .i64 29] (by rfl) rfl rfl (by (try simp only [List.map_toArray, List.map_cons, List.map_nil]); first | done | rfl | (simp only [List.length_drop, List.length_take]; rfl)) ?_
     with_reducible refine (task_Lapse.calls kj6 _ _ t352 t355 t356 2 1 30 4 0 29 t357 t358 t359 t360 t361 t362 _ ?side1 ?side2 A29.out).mono ?_
     (case side1 => repeat (first | exact (Kd.R_reads' HO354.out).2.2 | (with_reducible refine Kd.C_alloc ?_ _) | (with_reducible refine Kd.C_drewN ?_ _) | (with_reducible refine Kd.C_drew ?_)))
     (case side2 => exact (Kd.R_reads' HO354.out).2.1)
     rintro e w79 ⟨rfl, hb⟩
     refine ⟨_, rfl, ?_⟩
     replace HO318 := Aside0.mk (Kd.R_below (rr_ HO318.out) hb)
     replace HO330 := Aside0.mk (Kd.R_below (rr_ HO330.out) hb)
     replace HO342 := Aside0.mk (Kd.R_below (rr_ HO342.out) hb)
     replace HO354 := Aside0.mk (Kd.R_below (rr_ HO354.out) hb)
     replace BK314 := bs_ BK314 hb
     replace BK315 := bs_ BK315 hb
     replace BK327 := bs_ BK327 hb
     replace BK339 := bs_ BK339 hb
     replace BK351 := bs_ BK351 hb
     replace BK363 := bs_ BK363 hb
     replace HB := Aside0.mk (below_step (hB_ HB.out) hb)
     (try clear hb)
     (try clear hb2)
     (try clear hk)
     (try clear hi)
     refine hK.out _ _ ⟨ck_ BK314 0, ck_ BK314 1, ck_ BK314 2, ck_ BK314 3, ck_ BK314 4⟩ (fun hHeld => ?_)
     clear hK K
     refine norm_ (a' := ?_) ?_ ?_
     rotate_left
     ·
      show Act.put _ (some 89) _ = _
      simp only [Act.put, sa_, s0_, s1_, i64_w, i32_w]
      rfl
     refine pA_ 3 86 ?_ (b_ 9 79) (any_of HT_.out (by kernel_rfl)) rfl rfl (fun _ _ _ h => h) (by rfl) ?_ ?_ ?_ ?_; rotate_left
     · intro w'; go_simp; with_reducible rfl
     rotate_left
     · simp only [Act.put, sa_, s0_, s1_, i64_w, i32_w]; rfl
     refine pA_ 4 90 ?_ (b_ 9 95) (any_of HT_.out (by kernel_rfl)) rfl rfl (fun _ _ _ h => h) (by rfl) ?_ ?_ ?_ ?_; rotate_left
     · intro w'; go_simp; with_reducible rfl
     rotate_left
     · simp only [Act.put, sa_, s0_, s1_, i64_w, i32_w]; rfl
     refine pA_ 5 91 ?_ (b_ 9 127) (any_of HT_.out (by kernel_rfl)) rfl rfl (fun _ _ _ h => h) (by rfl) ?_ ?_ ?_ ?_; rotate_left
     · intro w'; go_simp; with_reducible rfl
     rotate_left
     · simp only [Act.put, sa_, s0_, s1_, i64_w, i32_w]; rfl
     exact norm_ (by simp only [putAll, Act.put, sa_, s0_, s1_]) (hCont (.slice Ao78 t352.length co78, gb363) _ ⟨hHeld, (rr_ (Kd.R_mono HO318.out (fun _ hk => ⟨hk.1.1, ⟨hk.1.2, hk.2⟩⟩))), (rr_ (Kd.R_mono HO330.out (fun _ hk => ⟨hk.1.1, ⟨hk.1.2, hk.2⟩⟩))), (rr_ (Kd.R_mono HO342.out (fun _ hk => ⟨hk.1.1, ⟨hk.1.2, hk.2⟩⟩))), (rr_ (Kd.R_mono HO354.out (fun _ hk => ⟨hk.1.1.2, ⟨hk.1.2, hk.2⟩⟩))), bq_, bq_, bq_, bq_, bq_, bq_, GW363.out, GE363.out, NB314_363.out, NB363_314.out, NB315_363.out, NB363_315.out, NB327_363.out, NB363_327.out, NB339_363.out, NB363_339.out, NB351_363.out, NB363_351.out, hq_⟩)
   rintro ⟨v353, gb363⟩ w80 ⟨hS_, h0_, h1_, h2_, h3_, h4_, h5_, h6_, h7_, h8_, h9_, h10_, h11_, h12_, h13_, h14_, h15_, h16_, h17_, h18_, h19_, h20_, h21_, h22_⟩
   (try dsimp only at h0_ h1_ h2_ h3_ h4_ h5_ h6_ h7_ h8_ h9_ h10_ h11_ h12_ h13_ h14_ h15_ h16_ h17_ h18_ h19_ h20_ h21_ h22_)
   have n0_ := Aside0.mk h0_
   have n1_ := Aside0.mk h1_
   have n2_ := Aside0.mk h2_
   have n3_ := Aside0.mk h3_
   have n4_ := Aside0.mk h4_
   have n5_ := Aside0.mk h5_
   have n6_ := Aside0.mk h6_
   have n7_ := Aside0.mk h7_
   have n8_ := Aside0.mk h8_
   have n9_ := Aside0.mk h9_
   have n10_ := Aside0.mk h10_
   have n11_ := Aside0.mk h11_
   have n12_ := Aside0.mk h12_
   have n13_ := Aside0.mk h13_
   have n14_ := Aside0.mk h14_
   have n15_ := Aside0.mk h15_
   have n16_ := Aside0.mk h16_
   have n17_ := Aside0.mk h17_
   have n18_ := Aside0.mk h18_
   have n19_ := Aside0.mk h19_
   have n20_ := Aside0.mk h20_
   have n21_ := Aside0.mk h21_
   have n22_ := Aside0.mk h22_
   clear HO318
   clear HO330
   clear HO342
   clear BK314
   clear BK315
   clear BK327
   clear BK339
   clear BK351
   clear HB
   clear h0_ h1_ h2_ h3_ h4_ h5_ h6_ h7_ h8_ h9_ h10_ h11_ h12_ h13_ h14_ h15_ h16_ h17_ h18_ h19_ h20_ h21_ h22_
   have HO318 := n0_
   have HO330 := n1_
   have HO342 := n2_
   have HO354 := n3_
   have BK314 := n4_
   have BK315 := n5_
   have BK327 := n6_
   have BK339 := n7_
   have BK351 := n8_
   have BK363 := n9_
   have GW363 := n10_
   have GE363 := n11_
   have NB314_363 := n12_
   have NB363_314 := n13_
   have NB315_363 := n14_
   have NB363_315 := n15_
   have NB327_363 := n16_
   have NB363_327 := n17_
   have NB339_363 := n18_
   have NB363_339 := n19_
   have NB351_363 := n20_
   have NB363_351 := n21_
   have HB := n22_
   clear n0_ n1_ n2_ n3_ n4_ n5_ n6_ n7_ n8_ n9_ n10_ n11_ n12_ n13_ n14_ n15_ n16_ n17_ n18_ n19_ n20_ n21_ n22_
   have hHeld : w80.cell? ⟨gb314, 0, none⟩ = some (.int .u8 2) ∧ w80.cell? ⟨gb314, 1, none⟩ = some (.int .i64 1) ∧ w80.cell? ⟨gb314, 2, none⟩ = some (.int .i64 30) ∧ w80.cell? ⟨gb314, 3, none⟩ = some (.int .i64 4) ∧ w80.cell? ⟨gb314, 4, none⟩ = some (.int .i64 0) := hS_
   refine norm_ (a' := ?_) ?_ ?_; rotate_left
   · simp only [putAll, Act.put, sa_, s0_, s1_]; rfl
   refine one_ (i := 7) (N := none) (b_ 9 255) rfl rfl (one_of HT_.out (by kernel_rfl)) (by decide) (fun K hK => ?_)
   have hs81 : w80.cell? ⟨gb363, 0, none⟩ = some (.int .u8 0) := ck_ BK363 0
   have hfs81 := blk_frozen BK363.out 0
   have hns81_0 := NB314_363.out
   have hns81_1 := NB315_363.out
   have hns81_2 := NB327_363.out
   have hns81_3 := NB339_363.out
   have hns81_4 := NB351_363.out
   have hms81_0 := NB363_314.out
   have hms81_1 := NB363_315.out
   have hms81_2 := NB363_327.out
   have hms81_3 := NB363_339.out
   have hms81_4 := NB363_351.out
   have hs82 : w80.cell? ⟨gb363, 1, none⟩ = some (.int .i64 0) := ck_ BK363 1
   have hfs82 := blk_frozen BK363.out 1
   have hns82_0 := NB314_363.out
   have hns82_1 := NB315_363.out
   have hns82_2 := NB327_363.out
   have hns82_3 := NB339_363.out
   have hns82_4 := NB351_363.out
   have hms82_0 := NB363_314.out
   have hms82_1 := NB363_315.out
   have hms82_2 := NB363_327.out
   have hms82_3 := NB363_339.out
   have hms82_4 := NB363_351.out
   have hs83 : w80.cell? ⟨gb363, 2, none⟩ = some (.int .i64 0) := ck_ BK363 2
   have hfs83 := blk_frozen BK363.out 2
   have hns83_0 := NB314_363.out
   have hns83_1 := NB315_363.out
   have hns83_2 := NB327_363.out
   have hns83_3 := NB339_363.out
   have hns83_4 := NB351_363.out
   have hms83_0 := NB363_314.out
   have hms83_1 := NB363_315.out
   have hms83_2 := NB363_327.out
   have hms83_3 := NB363_339.out
   have hms83_4 := NB363_351.out
   have hs84 : w80.cell? ⟨gb363, 3, none⟩ = some (.int .i64 0) := ck_ BK363 3
   have hfs84 := blk_frozen BK363.out 3
   have hns84_0 := NB314_363.out
   have hns84_1 := NB315_363.out
   have hns84_2 := NB327_363.out
   have hns84_3 := NB339_363.out
   have hns84_4 := NB351_363.out
   have hms84_0 := NB363_314.out
   have hms84_1 := NB363_315.out
   have hms84_2 := NB363_327.out
   have hms84_3 := NB363_339.out
   have hms84_4 := NB363_351.out
   have hs85 : w80.cell? ⟨gb363, 4, none⟩ = some (.int .i64 0) := ck_ BK363 4
   have hfs85 := blk_frozen BK363.out 4
   have hns85_0 := NB314_363.out
   have hns85_1 := NB315_363.out
   have hns85_2 := NB327_363.out
   have hns85_3 := NB339_363.out
   have hns85_4 := NB351_363.out
   have hms85_0 := NB363_314.out
   have hms85_1 := NB363_315.out
   have hms85_2 := NB363_327.out
   have hms85_3 := NB363_339.out
   have hms85_4 := NB363_351.out
   refine skip_ (w1 := ?_) (by rfl) rfl ?_ ?_; rotate_left
   · go_simp; rfl
   refine hK.out _ _ ⟨((cell_far (p := ⟨gb363, _, none⟩) NB314_363.out _).trans (((cell_far (p := ⟨gb363, _, none⟩) NB314_363.out _).trans (((cell_far (p := ⟨gb363, _, none⟩) NB314_363.out _).trans (((cell_far (p := ⟨gb363, _, none⟩) NB314_363.out _).trans (((cell_far (p := ⟨gb363, _, none⟩) NB314_363.out _).trans (hHeld.1)))))))))), ((cell_far (p := ⟨gb363, _, none⟩) NB314_363.out _).trans (((cell_far (p := ⟨gb363, _, none⟩) NB314_363.out _).trans (((cell_far (p := ⟨gb363, _, none⟩) NB314_363.out _).trans (((cell_far (p := ⟨gb363, _, none⟩) NB314_363.out _).trans (((cell_far (p := ⟨gb363, _, none⟩) NB314_363.out _).trans (hHeld.2.1)))))))))), ((cell_far (p := ⟨gb363, _, none⟩) NB314_363.out _).trans (((cell_far (p := ⟨gb363, _, none⟩) NB314_363.out _).trans (((cell_far (p := ⟨gb363, _, none⟩) NB314_363.out _).trans (((cell_far (p := ⟨gb363, _, none⟩) NB314_363.out _).trans (((cell_far (p := ⟨gb363, _, none⟩) NB314_363.out _).trans (hHeld.2.2.1)))))))))), ((cell_far (p := ⟨gb363, _, none⟩) NB314_363.out _).trans (((cell_far (p := ⟨gb363, _, none⟩) NB314_363.out _).trans (((cell_far (p := ⟨gb363, _, none⟩) NB314_363.out _).trans (((cell_far (p := ⟨gb363, _, none⟩) NB314_363.out _).trans (((cell_far (p := ⟨gb363, _, none⟩) NB314_363.out _).trans (hHeld.2.2.2.1)))))))))), ((cell_far (p := ⟨gb363, _, none⟩) NB314_363.out _).trans (((cell_far (p := ⟨gb363, _, none⟩) NB314_363.out _).trans (((cell_far (p := ⟨gb363, _, none⟩) NB314_363.out _).trans (((cell_far (p := ⟨gb363, _, none⟩) NB314_363.out _).trans (((cell_far (p := ⟨gb363, _, none⟩) NB314_363.out _).trans (hHeld.2.2.2.2))))))))))⟩ (fun hHeld => ?_)
   clear hK K
   refine pA_ 8 17 ?_ (b_ 9 511) (any_of HT_.out (by kernel_rfl)) rfl rfl (fun _ _ _ h => h) (by rfl) ?_ ?_ ?_ ?_; rotate_left
   · intro w'; go_simp; with_reducible rfl
   rotate_left
   · simp only [Act.put, sa_, s0_, s1_, i64_w, i32_w]; rfl
   refine done_ (done_of HT_.out (by kernel_rfl)) ?_
   try go_wp2
   have n0_ : Aside0 (Kd.R (Kd.int .i64) 3 (((((w80.setCell ⟨gb363, 0, none⟩ (.int .u8 t357)).setCell ⟨gb363, 1, none⟩ (.int .i64 t358)).setCell ⟨gb363, 2, none⟩ (.int .i64 t359)).setCell ⟨gb363, 3, none⟩ (.int .i64 t360)).setCell ⟨gb363, 4, none⟩ (.int .i64 t361)) w.heap.size (fun k_ => some k_ ≠ (.slice Ao55 t328.length co55 : Value).ownBlock ∧ some k_ ≠ (v341 : Value).ownBlock ∧ some k_ ≠ (v353 : Value).ownBlock) v317 t316) := ⟨rr_ (Kd.R_mono (Kd.R_far (p := ⟨gb363, 4, none⟩) (Kd.R_far (p := ⟨gb363, 3, none⟩) (Kd.R_far (p := ⟨gb363, 2, none⟩) (Kd.R_far (p := ⟨gb363, 1, none⟩) (Kd.R_far (p := ⟨gb363, 0, none⟩) (Kd.R_types HO318.out BK363.out (by decide)) (fun _ hk => hk.2) (.int .u8 t357)) (fun _ hk => hk.2) (.int .i64 t358)) (fun _ hk => hk.2) (.int .i64 t359)) (fun _ hk => hk.2) (.int .i64 t360)) (fun _ hk => hk.2) (.int .i64 t361)) (fun _ hk => ⟨hk.1.1, ⟨hk.1.2.1, hk.1.2.2⟩⟩))⟩
   have n1_ : Aside0 (Kd.R (Kd.int .i64) 3 (((((w80.setCell ⟨gb363, 0, none⟩ (.int .u8 t357)).setCell ⟨gb363, 1, none⟩ (.int .i64 t358)).setCell ⟨gb363, 2, none⟩ (.int .i64 t359)).setCell ⟨gb363, 3, none⟩ (.int .i64 t360)).setCell ⟨gb363, 4, none⟩ (.int .i64 t361)) w.heap.size (fun k_ => some k_ ≠ (v317 : Value).ownBlock ∧ some k_ ≠ (v341 : Value).ownBlock ∧ some k_ ≠ (v353 : Value).ownBlock) (.slice Ao55 t328.length co55) t328) := ⟨rr_ (Kd.R_mono (Kd.R_far (p := ⟨gb363, 4, none⟩) (Kd.R_far (p := ⟨gb363, 3, none⟩) (Kd.R_far (p := ⟨gb363, 2, none⟩) (Kd.R_far (p := ⟨gb363, 1, none⟩) (Kd.R_far (p := ⟨gb363, 0, none⟩) (Kd.R_types HO330.out BK363.out (by decide)) (fun _ hk => hk.2) (.int .u8 t357)) (fun _ hk => hk.2) (.int .i64 t358)) (fun _ hk => hk.2) (.int .i64 t359)) (fun _ hk => hk.2) (.int .i64 t360)) (fun _ hk => hk.2) (.int .i64 t361)) (fun _ hk => ⟨hk.1.1, ⟨hk.1.2.1, hk.1.2.2⟩⟩))⟩
   have n2_ : Aside0 (Kd.R (Kd.int .i64) 3 (((((w80.setCell ⟨gb363, 0, none⟩ (.int .u8 t357)).setCell ⟨gb363, 1, none⟩ (.int .i64 t358)).setCell ⟨gb363, 2, none⟩ (.int .i64 t359)).setCell ⟨gb363, 3, none⟩ (.int .i64 t360)).setCell ⟨gb363, 4, none⟩ (.int .i64 t361)) w.heap.size (fun k_ => some k_ ≠ (v317 : Value).ownBlock ∧ some k_ ≠ (.slice Ao55 t328.length co55 : Value).ownBlock ∧ some k_ ≠ (v353 : Value).ownBlock) v341 t340) := ⟨rr_ (Kd.R_mono (Kd.R_far (p := ⟨gb363, 4, none⟩) (Kd.R_far (p := ⟨gb363, 3, none⟩) (Kd.R_far (p := ⟨gb363, 2, none⟩) (Kd.R_far (p := ⟨gb363, 1, none⟩) (Kd.R_far (p := ⟨gb363, 0, none⟩) (Kd.R_types HO342.out BK363.out (by decide)) (fun _ hk => hk.2) (.int .u8 t357)) (fun _ hk => hk.2) (.int .i64 t358)) (fun _ hk => hk.2) (.int .i64 t359)) (fun _ hk => hk.2) (.int .i64 t360)) (fun _ hk => hk.2) (.int .i64 t361)) (fun _ hk => ⟨hk.1.1, ⟨hk.1.2.1, hk.1.2.2⟩⟩))⟩
   have n3_ : Aside0 (Kd.R (Kd.int .i64) 3 (((((w80.setCell ⟨gb363, 0, none⟩ (.int .u8 t357)).setCell ⟨gb363, 1, none⟩ (.int .i64 t358)).setCell ⟨gb363, 2, none⟩ (.int .i64 t359)).setCell ⟨gb363, 3, none⟩ (.int .i64 t360)).setCell ⟨gb363, 4, none⟩ (.int .i64 t361)) w.heap.size (fun k_ => some k_ ≠ (v317 : Value).ownBlock ∧ some k_ ≠ (.slice Ao55 t328.length co55 : Value).ownBlock ∧ some k_ ≠ (v341 : Value).ownBlock) v353 t352) := ⟨rr_ (Kd.R_mono (Kd.R_far (p := ⟨gb363, 4, none⟩) (Kd.R_far (p := ⟨gb363, 3, none⟩) (Kd.R_far (p := ⟨gb363, 2, none⟩) (Kd.R_far (p := ⟨gb363, 1, none⟩) (Kd.R_far (p := ⟨gb363, 0, none⟩) (Kd.R_types HO354.out BK363.out (by decide)) (fun _ hk => hk.2) (.int .u8 t357)) (fun _ hk => hk.2) (.int .i64 t358)) (fun _ hk => hk.2) (.int .i64 t359)) (fun _ hk => hk.2) (.int .i64 t360)) (fun _ hk => hk.2) (.int .i64 t361)) (fun _ hk => ⟨hk.1.1, ⟨hk.1.2.1, hk.1.2.2⟩⟩))⟩
   have n4_ : Aside0 ((((((w80.setCell ⟨gb363, 0, none⟩ (.int .u8 t357)).setCell ⟨gb363, 1, none⟩ (.int .i64 t358)).setCell ⟨gb363, 2, none⟩ (.int .i64 t359)).setCell ⟨gb363, 3, none⟩ (.int .i64 t360)).setCell ⟨gb363, 4, none⟩ (.int .i64 t361)).heap[gb314]? = some (.cells #[.int .u8 2, .int .i64 1, .int .i64 30, .int .i64 4, .int .i64 0] 31 (0, 0))) := ⟨bf_⟩
   have n5_ : Aside0 ((((((w80.setCell ⟨gb363, 0, none⟩ (.int .u8 t357)).setCell ⟨gb363, 1, none⟩ (.int .i64 t358)).setCell ⟨gb363, 2, none⟩ (.int .i64 t359)).setCell ⟨gb363, 3, none⟩ (.int .i64 t360)).setCell ⟨gb363, 4, none⟩ (.int .i64 t361)).heap[gb315]? = some (.cells #[.int .u8 3, .int .i64 1, .int .i64 17, .int .i64 0, .int .i64 0] 31 (0, 0))) := ⟨bf_⟩
   have n6_ : Aside0 ((((((w80.setCell ⟨gb363, 0, none⟩ (.int .u8 t357)).setCell ⟨gb363, 1, none⟩ (.int .i64 t358)).setCell ⟨gb363, 2, none⟩ (.int .i64 t359)).setCell ⟨gb363, 3, none⟩ (.int .i64 t360)).setCell ⟨gb363, 4, none⟩ (.int .i64 t361)).heap[gb327]? = some (.cells #[.int .u8 t321, .int .i64 t322, .int .i64 t323, .int .i64 t324, .int .i64 t325] 31 (0, 0))) := ⟨bf_⟩
   have n7_ : Aside0 ((((((w80.setCell ⟨gb363, 0, none⟩ (.int .u8 t357)).setCell ⟨gb363, 1, none⟩ (.int .i64 t358)).setCell ⟨gb363, 2, none⟩ (.int .i64 t359)).setCell ⟨gb363, 3, none⟩ (.int .i64 t360)).setCell ⟨gb363, 4, none⟩ (.int .i64 t361)).heap[gb339]? = some (.cells #[.int .u8 t333, .int .i64 t334, .int .i64 t335, .int .i64 t336, .int .i64 t337] 31 (0, 0))) := ⟨bf_⟩
   have n8_ : Aside0 ((((((w80.setCell ⟨gb363, 0, none⟩ (.int .u8 t357)).setCell ⟨gb363, 1, none⟩ (.int .i64 t358)).setCell ⟨gb363, 2, none⟩ (.int .i64 t359)).setCell ⟨gb363, 3, none⟩ (.int .i64 t360)).setCell ⟨gb363, 4, none⟩ (.int .i64 t361)).heap[gb351]? = some (.cells #[.int .u8 t345, .int .i64 t346, .int .i64 t347, .int .i64 t348, .int .i64 t349] 31 (0, 0))) := ⟨bf_⟩
   have n9_ : Aside0 ((((((w80.setCell ⟨gb363, 0, none⟩ (.int .u8 t357)).setCell ⟨gb363, 1, none⟩ (.int .i64 t358)).setCell ⟨gb363, 2, none⟩ (.int .i64 t359)).setCell ⟨gb363, 3, none⟩ (.int .i64 t360)).setCell ⟨gb363, 4, none⟩ (.int .i64 t361)).heap[gb363]? = some (.cells #[.int .u8 t357, .int .i64 t358, .int .i64 t359, .int .i64 t360, .int .i64 t361] 31 (0, 0))) := ⟨by (with_reducible repeat (first | refine blk_drewN ?_ _ | refine blk_drew ?_ | refine blk_alloc ?_ _)); refine blk_put (cs := #[.int .u8 t357, .int .i64 t358, .int .i64 t359, .int .i64 t360, .int .i64 0]) ?_ 4 _ rfl; (with_reducible repeat (first | refine blk_drewN ?_ _ | refine blk_drew ?_ | refine blk_alloc ?_ _)); refine blk_put (cs := #[.int .u8 t357, .int .i64 t358, .int .i64 t359, .int .i64 0, .int .i64 0]) ?_ 3 _ rfl; (with_reducible repeat (first | refine blk_drewN ?_ _ | refine blk_drew ?_ | refine blk_alloc ?_ _)); refine blk_put (cs := #[.int .u8 t357, .int .i64 t358, .int .i64 0, .int .i64 0, .int .i64 0]) ?_ 2 _ rfl; (with_reducible repeat (first | refine blk_drewN ?_ _ | refine blk_drew ?_ | refine blk_alloc ?_ _)); refine blk_put (cs := #[.int .u8 t357, .int .i64 0, .int .i64 0, .int .i64 0, .int .i64 0]) ?_ 1 _ rfl; (with_reducible repeat (first | refine blk_drewN ?_ _ | refine blk_drew ?_ | refine blk_alloc ?_ _)); refine blk_put (cs := #[.int .u8 0, .int .i64 0, .int .i64 0, .int .i64 0, .int .i64 0]) ?_ 0 _ rfl; (with_reducible repeat (first | refine blk_drewN ?_ _ | refine blk_drew ?_ | refine blk_alloc ?_ _)); exact BK363.out⟩
   have n10_ : Aside0 (Below w.heap.size w (((((w80.setCell ⟨gb363, 0, none⟩ (.int .u8 t357)).setCell ⟨gb363, 1, none⟩ (.int .i64 t358)).setCell ⟨gb363, 2, none⟩ (.int .i64 t359)).setCell ⟨gb363, 3, none⟩ (.int .i64 t360)).setCell ⟨gb363, 4, none⟩ (.int .i64 t361))) := ⟨hq_⟩
   (try clear HO318)
   (try clear HO330)
   (try clear HO342)
   (try clear HO354)
   (try clear BK314)
   (try clear BK315)
   (try clear BK327)
   (try clear BK339)
   (try clear BK351)
   (try clear BK363)
   (try clear HB)
   generalize (((((w80.setCell ⟨gb363, 0, none⟩ (.int .u8 t357)).setCell ⟨gb363, 1, none⟩ (.int .i64 t358)).setCell ⟨gb363, 2, none⟩ (.int .i64 t359)).setCell ⟨gb363, 3, none⟩ (.int .i64 t360)).setCell ⟨gb363, 4, none⟩ (.int .i64 t361)) = w86 at n0_ n1_ n2_ n3_ n4_ n5_ n6_ n7_ n8_ n9_ n10_ ⊢
   have HO318 := n0_
   have HO330 := n1_
   have HO342 := n2_
   have HO354 := n3_
   have BK314 := n4_
   have BK315 := n5_
   have BK327 := n6_
   have BK339 := n7_
   have BK351 := n8_
   have BK363 := n9_
   have HB := n10_
   clear n0_ n1_ n2_ n3_ n4_ n5_ n6_ n7_ n8_ n9_ n10_
   replace HO318 := Aside0.mk (Kd.R_drew HO318.out)
   replace HO330 := Aside0.mk (Kd.R_drew HO330.out)
   replace HO342 := Aside0.mk (Kd.R_drew HO342.out)
   replace HO354 := Aside0.mk (Kd.R_drew HO354.out)
   replace BK314 := Aside0.mk (blk_drew BK314.out)
   replace BK315 := Aside0.mk (blk_drew BK315.out)
   replace BK327 := Aside0.mk (blk_drew BK327.out)
   replace BK339 := Aside0.mk (blk_drew BK339.out)
   replace BK351 := Aside0.mk (blk_drew BK351.out)
   replace BK363 := Aside0.mk (blk_drew BK363.out)
   replace HB := Aside0.mk (below_drew1 HB.out)
   refine start_ (n := 9) (S := fun w' => w'.cell? ⟨gb314, 0, none⟩ = some (.int .u8 2) ∧ w'.cell? ⟨gb314, 1, none⟩ = some (.int .i64 1) ∧ w'.cell? ⟨gb314, 2, none⟩ = some (.int .i64 30) ∧ w'.cell? ⟨gb314, 3, none⟩ = some (.int .i64 4) ∧ w'.cell? ⟨gb314, 4, none⟩ = some (.int .i64 0)) (ds := []) (b_ 9 0) (by kernel_rfl) rfl rfl ⟨ck_ BK314 0, ck_ BK314 1, ck_ BK314 2, ck_ BK314 3, ck_ BK314 4⟩ (fun hHeld => ?_); refine with_tabW millhandlaw24_TaskNames.tab11 millhandlaw24_TaskNames.bits11 (fun HT_ HW_ => ?_)
   generalize w86.drew = w87 at HO318 HO330 HO342 HO354 BK314 BK315 BK327 BK339 BK351 BK363 HB hHeld ⊢
   refine tA_ 1 94 ?_ (b_ 9 2) (take_ofW HT_.out HW_.out (by kernel_rfl)) rfl rfl (fun _ _ _ h => h) (by rfl) ?_ hHeld ?_ ?_ ?_; rotate_left
   · rintro w' ⟨s0, s1, s2, s3, s4⟩; go_simp; with_reducible rfl
   rotate_left
   · simp only [Act.put, sa_, s0_, s1_, i64_w, i32_w]; rfl
   refine join_ (σ := Value × Nat) 2 (b_ 9 127) (fun s_ => [(93, .agg #[s_.1, .int .i64 t367, .int .i64 t368]), (95, .tuple #[.agg #[.int .u8 t369, .int .i64 t370, .int .i64 t371, .int .i64 t372, .int .i64 t373], .int .i64 t374]), (18, .pointer (some ⟨s_.2, 0, none⟩)), (92, .tuple #[.agg #[.int .u8 t369, .int .i64 t370, .int .i64 t371, .int .i64 t372, .int .i64 t373], .int .i64 t374]), (96, .agg #[.int .u8 t369, .int .i64 t370, .int .i64 t371, .int .i64 t372, .int .i64 t373]), (97, .int .i64 t374)]) (fun s_ w' => (w'.cell? ⟨gb314, 0, none⟩ = some (.int .u8 2) ∧ w'.cell? ⟨gb314, 1, none⟩ = some (.int .i64 1) ∧ w'.cell? ⟨gb314, 2, none⟩ = some (.int .i64 30) ∧ w'.cell? ⟨gb314, 3, none⟩ = some (.int .i64 4) ∧ w'.cell? ⟨gb314, 4, none⟩ = some (.int .i64 0)) ∧ (Kd.R (Kd.int .i64) 3 w' w.heap.size (fun k_ => some k_ ≠ (.slice Ao55 t328.length co55 : Value).ownBlock ∧ some k_ ≠ (v341 : Value).ownBlock ∧ some k_ ≠ (v353 : Value).ownBlock ∧ some k_ ≠ (s_.1 : Value).ownBlock) v317 t316) ∧ (Kd.R (Kd.int .i64) 3 w' w.heap.size (fun k_ => some k_ ≠ (v317 : Value).ownBlock ∧ some k_ ≠ (v341 : Value).ownBlock ∧ some k_ ≠ (v353 : Value).ownBlock ∧ some k_ ≠ (s_.1 : Value).ownBlock) (.slice Ao55 t328.length co55) t328) ∧ (Kd.R (Kd.int .i64) 3 w' w.heap.size (fun k_ => some k_ ≠ (v317 : Value).ownBlock ∧ some k_ ≠ (.slice Ao55 t328.length co55 : Value).ownBlock ∧ some k_ ≠ (v353 : Value).ownBlock ∧ some k_ ≠ (s_.1 : Value).ownBlock) v341 t340) ∧ (Kd.R (Kd.int .i64) 3 w' w.heap.size (fun k_ => some k_ ≠ (v317 : Value).ownBlock ∧ some k_ ≠ (.slice Ao55 t328.length co55 : Value).ownBlock ∧ some k_ ≠ (v341 : Value).ownBlock ∧ some k_ ≠ (s_.1 : Value).ownBlock) v353 t352) ∧ (Kd.R (Kd.int .i64) 3 w' w.heap.size (fun k_ => some k_ ≠ (v317 : Value).ownBlock ∧ some k_ ≠ (.slice Ao55 t328.length co55 : Value).ownBlock ∧ some k_ ≠ (v341 : Value).ownBlock ∧ some k_ ≠ (v353 : Value).ownBlock) s_.1 t364) ∧ (w'.heap[gb314]? = some (.cells #[.int .u8 2, .int .i64 1, .int .i64 30, .int .i64 4, .int .i64 0] 31 (0, 0))) ∧ (w'.heap[gb315]? = some (.cells #[.int .u8 3, .int .i64 1, .int .i64 17, .int .i64 0, .int .i64 0] 31 (0, 0))) ∧ (w'.heap[gb327]? = some (.cells #[.int .u8 t321, .int .i64 t322, .int .i64 t323, .int .i64 t324, .int .i64 t325] 31 (0, 0))) ∧ (w'.heap[gb339]? = some (.cells #[.int .u8 t333, .int .i64 t334, .int .i64 t335, .int .i64 t336, .int .i64 t337] 31 (0, 0))) ∧ (w'.heap[gb351]? = some (.cells #[.int .u8 t345, .int .i64 t346, .int .i64 t347, .int .i64 t348, .int .i64 t349] 31 (0, 0))) ∧ (w'.heap[gb363]? = some (.cells #[.int .u8 t357, .int .i64 t358, .int .i64 t359, .int .i64 t360, .int .i64 t361] 31 (0, 0))) ∧ (w'.heap[s_.2]? = some (.cells #[.int .u8 0, .int .i64 0, .int .i64 0, .int .i64 0, .int .i64 0] 31 (0, 0))) ∧ (w.heap.size ≤ s_.2) ∧ (w.heap.size ≤ s_.2) ∧ (gb314 ≠ s_.2) ∧ (s_.2 ≠ gb314) ∧ (gb315 ≠ s_.2) ∧ (s_.2 ≠ gb315) ∧ (gb327 ≠ s_.2) ∧ (s_.2 ≠ gb327) ∧ (gb339 ≠ s_.2) ∧ (s_.2 ≠ gb339) ∧ (gb351 ≠ s_.2) ∧ (s_.2 ≠ gb351) ∧ (gb363 ≠ s_.2) ∧ (s_.2 ≠ gb363) ∧ (Below w.heap.size w w')) ?_ ?_
   rotate_left
   ·
    intro hCont
    refine two_ (i := 0) (j := 6) (Ni := some 93) (Nj := some 18) (b_ 9 3) (b_ 9 66) rfl rfl rfl rfl (two_of HT_.out (by kernel_rfl)) (by decide) (by decide) (fun K hK => ?_) (fun K hK => ?_)
    ·
     skip
     refine goes_ Try.func11 (by kernel_rfl) rfl #[] (by rfl) rfl rfl (by (try simp only [List.map_toArray, List.map_cons, List.map_nil]); first | done | rfl | (simp only [List.length_drop, List.length_take]; rfl)) ?_
     with_reducible refine (millhandlaw24_node.calls  t364 t367 t368 _ A30.out).mono ?_
     rintro e w88 ⟨v365, rfl, ho0, hb⟩
     refine ⟨_, rfl, ?_⟩
     have HO366 := Aside0.mk (Kd.R_lower (Kd.R_new' (Kd.R_new' (Kd.R_new' (Kd.R_new' ho0 (Kd.R_lt (rr_ HO318.out))) (Kd.R_lt (rr_ HO330.out))) (Kd.R_lt (rr_ HO342.out))) (Kd.R_lt (rr_ HO354.out))) (below_size (hB_ HB.out)))
     replace HO318 := Aside0.mk (Kd.R_elder' (rr_ HO318.out) (Kd.R_base ho0) hb)
     replace HO330 := Aside0.mk (Kd.R_elder' (rr_ HO330.out) (Kd.R_base ho0) hb)
     replace HO342 := Aside0.mk (Kd.R_elder' (rr_ HO342.out) (Kd.R_base ho0) hb)
     replace HO354 := Aside0.mk (Kd.R_elder' (rr_ HO354.out) (Kd.R_base ho0) hb)
     replace BK314 := bs_ BK314 hb
     replace BK315 := bs_ BK315 hb
     replace BK327 := bs_ BK327 hb
     replace BK339 := bs_ BK339 hb
     replace BK351 := bs_ BK351 hb
     replace BK363 := bs_ BK363 hb
     replace HB := Aside0.mk (below_step (hB_ HB.out) hb)
     (try clear hb)
     (try clear hb2)
     (try clear hk)
     (try clear hi)
     (try clear ho0)
     obtain ⟨Ao89, co89, eo89⟩ := Kd.R_slice HO366.out
     (first | subst eo89 | (injection eo89 with f1_ f2_ f3_; have f4_ := f1_.symm; have f5_ := f3_.symm; clear f1_ f2_ f3_; subst f4_; subst f5_))
     refine hK.out _ _ ⟨ck_ BK314 0, ck_ BK314 1, ck_ BK314 2, ck_ BK314 3, ck_ BK314 4⟩ (fun hHeld => ?_)
     clear hK K
     refine norm_ (a' := ?_) ?_ ?_
     rotate_left
     ·
      show Act.put _ (some 93) _ = _
      simp only [Act.put, sa_, s0_, s1_, i64_w, i32_w]
      rfl
     refine two_ (i := 2) (j := 6) (Ni := some 95) (Nj := some 18) (b_ 9 7) (b_ 9 67) rfl rfl rfl rfl (two_of HT_.out (by kernel_rfl)) (by decide) (by decide) (fun K hK => ?_) (fun K hK => ?_)
     ·
      skip
      refine goes_ Try.func14 (by kernel_rfl) rfl #[.agg #[.slice Ao89 t364.length co89, .int .i64 t367, .int .i64 t368], .agg #[.int .u8 2, .int .i64 1, .int .i64 30, .int .i64 4, .int .i64 0], .int .i64 30] (by rfl) rfl rfl (by (try simp only [List.map_toArray, List.map_cons, List.map_nil]); first | done | rfl | (simp only [List.length_drop, List.length_take]; rfl)) ?_
      with_reducible refine (task_Lapse.calls kj6 _ _ t364 t367 t368 2 1 30 4 0 30 t369 t370 t371 t372 t373 t374 _ ?side1 ?side2 A31.out).mono ?_
      (case side1 => repeat (first | exact (Kd.R_reads' HO366.out).2.2 | (with_reducible refine Kd.C_alloc ?_ _) | (with_reducible refine Kd.C_drewN ?_ _) | (with_reducible refine Kd.C_drew ?_)))
      (case side2 => exact (Kd.R_reads' HO366.out).2.1)
      rintro e w90 ⟨rfl, hb⟩
      refine ⟨_, rfl, ?_⟩
      replace HO318 := Aside0.mk (Kd.R_below (rr_ HO318.out) hb)
      replace HO330 := Aside0.mk (Kd.R_below (rr_ HO330.out) hb)
      replace HO342 := Aside0.mk (Kd.R_below (rr_ HO342.out) hb)
      replace HO354 := Aside0.mk (Kd.R_below (rr_ HO354.out) hb)
      replace HO366 := Aside0.mk (Kd.R_below (rr_ HO366.out) hb)
      replace BK314 := bs_ BK314 hb
      replace BK315 := bs_ BK315 hb
      replace BK327 := bs_ BK327 hb
      replace BK339 := bs_ BK339 hb
      replace BK351 := bs_ BK351 hb
      replace BK363 := bs_ BK363 hb
      replace HB := Aside0.mk (below_step (hB_ HB.out) hb)
      (try clear hb)
      (try clear hb2)
      (try clear hk)
      (try clear hi)
      refine hK.out _ _ ⟨ck_ BK314 0, ck_ BK314 1, ck_ BK314 2, ck_ BK314 3, ck_ BK314 4⟩ (fun hHeld => ?_)
      clear hK K
      refine norm_ (a' := ?_) ?_ ?_
      rotate_left
      ·
       show Act.put _ (some 95) _ = _
       simp only [Act.put, sa_, s0_, s1_, i64_w, i32_w]
       rfl
      refine pA_ 3 92 ?_ (b_ 9 15) (any_of HT_.out (by kernel_rfl)) rfl rfl (fun _ _ _ h => h) (by rfl) ?_ ?_ ?_ ?_; rotate_left
      · intro w'; go_simp; with_reducible rfl
      rotate_left
      · simp only [Act.put, sa_, s0_, s1_, i64_w, i32_w]; rfl
      refine pA_ 4 96 ?_ (b_ 9 31) (any_of HT_.out (by kernel_rfl)) rfl rfl (fun _ _ _ h => h) (by rfl) ?_ ?_ ?_ ?_; rotate_left
      · intro w'; go_simp; with_reducible rfl
      rotate_left
      · simp only [Act.put, sa_, s0_, s1_, i64_w, i32_w]; rfl
      refine pA_ 5 97 ?_ (b_ 9 63) (any_of HT_.out (by kernel_rfl)) rfl rfl (fun _ _ _ h => h) (by rfl) ?_ ?_ ?_ ?_; rotate_left
      · intro w'; go_simp; with_reducible rfl
      rotate_left
      · simp only [Act.put, sa_, s0_, s1_, i64_w, i32_w]; rfl
      refine one_ (i := 6) (N := some 18) (b_ 9 127) rfl rfl (one_of HT_.out (by kernel_rfl)) (by decide) (fun K hK => ?_)
      refine box_step ?hg (N := 18) ?hd (cs := #[.int .u8 0, .int .i64 0, .int .i64 0, .int .i64 0, .int .i64 0]) (t := 31) ?hr ?_; (case hd => rfl); (case hg => rfl); (case hr => first | (go_simp; done) | (go_simp; rfl))
      intro gb375 hg w91 hbox hb
      replace HO318 := Aside0.mk (Kd.R_below (rr_ HO318.out) hb)
      replace HO330 := Aside0.mk (Kd.R_below (rr_ HO330.out) hb)
      replace HO342 := Aside0.mk (Kd.R_below (rr_ HO342.out) hb)
      replace HO354 := Aside0.mk (Kd.R_below (rr_ HO354.out) hb)
      replace HO366 := Aside0.mk (Kd.R_below (rr_ HO366.out) hb)
      have BK375 := Aside0.mk (hbox)
      have GW375 := bz_ (hB_ HB.out) hg
      have GE375 := bz_ (hB_ HB.out) hg
      replace HB := Aside0.mk (below_step (hB_ HB.out) hb)
      have NB314_375 := bn_ BK314 hg
      have NB375_314 := bm_ BK314 hg
      replace BK314 := bs_ BK314 hb
      have NB315_375 := bn_ BK315 hg
      have NB375_315 := bm_ BK315 hg
      replace BK315 := bs_ BK315 hb
      have NB327_375 := bn_ BK327 hg
      have NB375_327 := bm_ BK327 hg
      replace BK327 := bs_ BK327 hb
      have NB339_375 := bn_ BK339 hg
      have NB375_339 := bm_ BK339 hg
      replace BK339 := bs_ BK339 hb
      have NB351_375 := bn_ BK351 hg
      have NB375_351 := bm_ BK351 hg
      replace BK351 := bs_ BK351 hb
      have NB363_375 := bn_ BK363 hg
      have NB375_363 := bm_ BK363 hg
      replace BK363 := bs_ BK363 hb
      clear hb hbox hg
      refine hK.out _ _ ⟨ck_ BK314 0, ck_ BK314 1, ck_ BK314 2, ck_ BK314 3, ck_ BK314 4⟩ (fun hHeld => ?_)
      clear hK K
      refine norm_ (a' := ?_) ?_ ?_
      rotate_left
      ·
       show Act.put _ (some 18) _ = _
       simp only [Act.put, sa_, s0_, s1_, i64_w, i32_w]
       rfl
      exact norm_ (by simp only [putAll, Act.put, sa_, s0_, s1_]) (hCont (.slice Ao89 t364.length co89, gb375) _ ⟨hHeld, (rr_ (Kd.R_mono HO318.out (fun _ hk => ⟨hk.1.1, ⟨hk.1.2.1, ⟨hk.1.2.2, hk.2⟩⟩⟩))), (rr_ (Kd.R_mono HO330.out (fun _ hk => ⟨hk.1.1, ⟨hk.1.2.1, ⟨hk.1.2.2, hk.2⟩⟩⟩))), (rr_ (Kd.R_mono HO342.out (fun _ hk => ⟨hk.1.1, ⟨hk.1.2.1, ⟨hk.1.2.2, hk.2⟩⟩⟩))), (rr_ (Kd.R_mono HO354.out (fun _ hk => ⟨hk.1.1, ⟨hk.1.2.1, ⟨hk.1.2.2, hk.2⟩⟩⟩))), (rr_ (Kd.R_mono HO366.out (fun _ hk => ⟨hk.1.1.1.2, ⟨hk.1.1.2, ⟨hk.1.2, hk.2⟩⟩⟩))), bq_, bq_, bq_, bq_, bq_, bq_, bq_, GW375.out, GE375.out, NB314_375.out, NB375_314.out, NB315_375.out, NB375_315.out, NB327_375.out, NB375_327.out, NB339_375.out, NB375_339.out, NB351_375.out, NB375_351.out, NB363_375.out, NB375_363.out, hq_⟩)
     ·
      skip
      refine box_step ?hg (N := 18) ?hd (cs := #[.int .u8 0, .int .i64 0, .int .i64 0, .int .i64 0, .int .i64 0]) (t := 31) ?hr ?_; (case hd => rfl); (case hg => rfl); (case hr => first | (go_simp; done) | (go_simp; rfl))
      intro gb375 hg w89 hbox hb
      replace HO318 := Aside0.mk (Kd.R_below (rr_ HO318.out) hb)
      replace HO330 := Aside0.mk (Kd.R_below (rr_ HO330.out) hb)
      replace HO342 := Aside0.mk (Kd.R_below (rr_ HO342.out) hb)
      replace HO354 := Aside0.mk (Kd.R_below (rr_ HO354.out) hb)
      replace HO366 := Aside0.mk (Kd.R_below (rr_ HO366.out) hb)
      have BK375 := Aside0.mk (hbox)
      have GW375 := bz_ (hB_ HB.out) hg
      have GE375 := bz_ (hB_ HB.out) hg
      replace HB := Aside0.mk (below_step (hB_ HB.out) hb)
      have NB314_375 := bn_ BK314 hg
      have NB375_314 := bm_ BK314 hg
      replace BK314 := bs_ BK314 hb
      have NB315_375 := bn_ BK315 hg
      have NB375_315 := bm_ BK315 hg
      replace BK315 := bs_ BK315 hb
      have NB327_375 := bn_ BK327 hg
      have NB375_327 := bm_ BK327 hg
      replace BK327 := bs_ BK327 hb
      have NB339_375 := bn_ BK339 hg
      have NB375_339 := bm_ BK339 hg
      replace BK339 := bs_ BK339 hb
      have NB351_375 := bn_ BK351 hg
      have NB375_351 := bm_ BK351 hg
      replace BK351 := bs_ BK351 hb
      have NB363_375 := bn_ BK363 hg
      have NB375_363 := bm_ BK363 hg
      replace BK363 := bs_ BK363 hb
      clear hb hbox hg
      obtain ⟨Ao90, co90, eo90⟩ := Kd.R_slice HO366.out
      (first | subst eo90 | (injection eo90 with f1_ f2_ f3_; have f4_ := f1_.symm; have f5_ := f3_.symm; clear f1_ f2_ f3_; subst f4_; subst f5_))
      refine hK.out _ _ ⟨ck_ BK314 0, ck_ BK314 1, ck_ BK314 2, ck_ BK314 3, ck_ BK314 4⟩ (fun hHeld => ?_)
      clear hK K
      refine norm_ (a' := ?_) ?_ ?_
      rotate_left
      ·
       show Act.put _ (some 18) _ = _
       simp only [Act.put, sa_, s0_, s1_, i64_w, i32_w]
       rfl
      refine one_ (i := 2) (N := some 95) (b_ 9 71) rfl rfl (one_of HT_.out (by kernel_rfl)) (by decide) (fun K hK => ?_)
      refine goes_ Try.func14 (by kernel_rfl) rfl #[.agg #[.slice Ao90 t364.length co90, .int .i64 t367, .int .i64 t368], .agg #[.int .u8 2, .int .i64 1, .int .i64 30, .int .i64 4, .int .i64 0], .int .i64 30] (by rfl) rfl rfl (by (try simp only [List.map_toArray, List.map_cons, List.map_nil]); first | done | rfl | (simp only [List.length_drop, List.length_take]; rfl)) ?_
      with_reducible refine (task_Lapse.calls kj6 _ _ t364 t367 t368 2 1 30 4 0 30 t369 t370 t371 t372 t373 t374 _ ?side1 ?side2 A31.out).mono ?_
      (case side1 => repeat (first | exact (Kd.R_reads' HO366.out).2.2 | (with_reducible refine Kd.C_alloc ?_ _) | (with_reducible refine Kd.C_drewN ?_ _) | (with_reducible refine Kd.C_drew ?_)))
      (case side2 => exact (Kd.R_reads' HO366.out).2.1)
      rintro e w91 ⟨rfl, hb⟩
      refine ⟨_, rfl, ?_⟩
      replace HO318 := Aside0.mk (Kd.R_below (rr_ HO318.out) hb)
      replace HO330 := Aside0.mk (Kd.R_below (rr_ HO330.out) hb)
      replace HO342 := Aside0.mk (Kd.R_below (rr_ HO342.out) hb)
      replace HO354 := Aside0.mk (Kd.R_below (rr_ HO354.out) hb)
      replace HO366 := Aside0.mk (Kd.R_below (rr_ HO366.out) hb)
      replace BK314 := bs_ BK314 hb
      replace BK315 := bs_ BK315 hb
      replace BK327 := bs_ BK327 hb
      replace BK339 := bs_ BK339 hb
      replace BK351 := bs_ BK351 hb
      replace BK363 := bs_ BK363 hb
      replace BK375 := bs_ BK375 hb
      replace HB := Aside0.mk (below_step (hB_ HB.out) hb)
      (try clear hb)
      (try clear hb2)
      (try clear hk)
      (try clear hi)
      refine hK.out _ _ ⟨ck_ BK314 0, ck_ BK314 1, ck_ BK314 2, ck_ BK314 3, ck_ BK314 4⟩ (fun hHeld => ?_)
      clear hK K
      refine norm_ (a' := ?_) ?_ ?_
      rotate_left
      ·
       show Act.put _ (some 95) _ = _
       simp only [Act.put, sa_, s0_, s1_, i64_w, i32_w]
       rfl
      refine pA_ 3 92 ?_ (b_ 9 79) (any_of HT_.out (by kernel_rfl)) rfl rfl (fun _ _ _ h => h) (by rfl) ?_ ?_ ?_ ?_; rotate_left
      · intro w'; go_simp; with_reducible rfl
      rotate_left
      · simp only [Act.put, sa_, s0_, s1_, i64_w, i32_w]; rfl
      refine pA_ 4 96 ?_ (b_ 9 95) (any_of HT_.out (by kernel_rfl)) rfl rfl (fun _ _ _ h => h) (by rfl) ?_ ?_ ?_ ?_; rotate_left
      · intro w'; go_simp; with_reducible rfl
      rotate_left
      · simp only [Act.put, sa_, s0_, s1_, i64_w, i32_w]; rfl
      refine pA_ 5 97 ?_ (b_ 9 127) (any_of HT_.out (by kernel_rfl)) rfl rfl (fun _ _ _ h => h) (by rfl) ?_ ?_ ?_ ?_; rotate_left
      · intro w'; go_simp; with_reducible rfl
      rotate_left
      · simp only [Act.put, sa_, s0_, s1_, i64_w, i32_w]; rfl
      exact norm_ (by simp only [putAll, Act.put, sa_, s0_, s1_]) (hCont (.slice Ao90 t364.length co90, gb375) _ ⟨hHeld, (rr_ (Kd.R_mono HO318.out (fun _ hk => ⟨hk.1.1, ⟨hk.1.2.1, ⟨hk.1.2.2, hk.2⟩⟩⟩))), (rr_ (Kd.R_mono HO330.out (fun _ hk => ⟨hk.1.1, ⟨hk.1.2.1, ⟨hk.1.2.2, hk.2⟩⟩⟩))), (rr_ (Kd.R_mono HO342.out (fun _ hk => ⟨hk.1.1, ⟨hk.1.2.1, ⟨hk.1.2.2, hk.2⟩⟩⟩))), (rr_ (Kd.R_mono HO354.out (fun _ hk => ⟨hk.1.1, ⟨hk.1.2.1, ⟨hk.1.2.2, hk.2⟩⟩⟩))), (rr_ (Kd.R_mono HO366.out (fun _ hk => ⟨hk.1.1.1.2, ⟨hk.1.1.2, ⟨hk.1.2, hk.2⟩⟩⟩))), bq_, bq_, bq_, bq_, bq_, bq_, bq_, GW375.out, GE375.out, NB314_375.out, NB375_314.out, NB315_375.out, NB375_315.out, NB327_375.out, NB375_327.out, NB339_375.out, NB375_339.out, NB351_375.out, NB375_351.out, NB363_375.out, NB375_363.out, hq_⟩)
    ·
     skip
     refine box_step ?hg (N := 18) ?hd (cs := #[.int .u8 0, .int .i64 0, .int .i64 0, .int .i64 0, .int .i64 0]) (t := 31) ?hr ?_; (case hd => rfl); (case hg => rfl); (case hr => first | (go_simp; done) | (go_simp; rfl))
     intro gb375 hg w88 hbox hb
     replace HO318 := Aside0.mk (Kd.R_below (rr_ HO318.out) hb)
     replace HO330 := Aside0.mk (Kd.R_below (rr_ HO330.out) hb)
     replace HO342 := Aside0.mk (Kd.R_below (rr_ HO342.out) hb)
     replace HO354 := Aside0.mk (Kd.R_below (rr_ HO354.out) hb)
     have BK375 := Aside0.mk (hbox)
     have GW375 := bz_ (hB_ HB.out) hg
     have GE375 := bz_ (hB_ HB.out) hg
     replace HB := Aside0.mk (below_step (hB_ HB.out) hb)
     have NB314_375 := bn_ BK314 hg
     have NB375_314 := bm_ BK314 hg
     replace BK314 := bs_ BK314 hb
     have NB315_375 := bn_ BK315 hg
     have NB375_315 := bm_ BK315 hg
     replace BK315 := bs_ BK315 hb
     have NB327_375 := bn_ BK327 hg
     have NB375_327 := bm_ BK327 hg
     replace BK327 := bs_ BK327 hb
     have NB339_375 := bn_ BK339 hg
     have NB375_339 := bm_ BK339 hg
     replace BK339 := bs_ BK339 hb
     have NB351_375 := bn_ BK351 hg
     have NB375_351 := bm_ BK351 hg
     replace BK351 := bs_ BK351 hb
     have NB363_375 := bn_ BK363 hg
     have NB375_363 := bm_ BK363 hg
     replace BK363 := bs_ BK363 hb
     clear hb hbox hg
     refine hK.out _ _ ⟨ck_ BK314 0, ck_ BK314 1, ck_ BK314 2, ck_ BK314 3, ck_ BK314 4⟩ (fun hHeld => ?_)
     clear hK K
     refine norm_ (a' := ?_) ?_ ?_
     rotate_left
     ·
      show Act.put _ (some 18) _ = _
      simp only [Act.put, sa_, s0_, s1_, i64_w, i32_w]
      rfl
     refine one_ (i := 0) (N := some 93) (b_ 9 67) rfl rfl (one_of HT_.out (by kernel_rfl)) (by decide) (fun K hK => ?_)
     refine goes_ Try.func11 (by kernel_rfl) rfl #[] (by rfl) rfl rfl (by (try simp only [List.map_toArray, List.map_cons, List.map_nil]); first | done | rfl | (simp only [List.length_drop, List.length_take]; rfl)) ?_
     with_reducible refine (millhandlaw24_node.calls  t364 t367 t368 _ A30.out).mono ?_
     rintro e w89 ⟨v365, rfl, ho0, hb⟩
     refine ⟨_, rfl, ?_⟩
     have HO366 := Aside0.mk (Kd.R_lower (Kd.R_new' (Kd.R_new' (Kd.R_new' (Kd.R_new' ho0 (Kd.R_lt (rr_ HO318.out))) (Kd.R_lt (rr_ HO330.out))) (Kd.R_lt (rr_ HO342.out))) (Kd.R_lt (rr_ HO354.out))) (below_size (hB_ HB.out)))
     replace HO318 := Aside0.mk (Kd.R_elder' (rr_ HO318.out) (Kd.R_base ho0) hb)
     replace HO330 := Aside0.mk (Kd.R_elder' (rr_ HO330.out) (Kd.R_base ho0) hb)
     replace HO342 := Aside0.mk (Kd.R_elder' (rr_ HO342.out) (Kd.R_base ho0) hb)
     replace HO354 := Aside0.mk (Kd.R_elder' (rr_ HO354.out) (Kd.R_base ho0) hb)
     replace BK314 := bs_ BK314 hb
     replace BK315 := bs_ BK315 hb
     replace BK327 := bs_ BK327 hb
     replace BK339 := bs_ BK339 hb
     replace BK351 := bs_ BK351 hb
     replace BK363 := bs_ BK363 hb
     replace BK375 := bs_ BK375 hb
     replace HB := Aside0.mk (below_step (hB_ HB.out) hb)
     (try clear hb)
     (try clear hb2)
     (try clear hk)
     (try clear hi)
     (try clear ho0)
     obtain ⟨Ao90, co90, eo90⟩ := Kd.R_slice HO366.out
     (first | subst eo90 | (injection eo90 with f1_ f2_ f3_; have f4_ := f1_.symm; have f5_ := f3_.symm; clear f1_ f2_ f3_; subst f4_; subst f5_))
     refine hK.out _ _ ⟨ck_ BK314 0, ck_ BK314 1, ck_ BK314 2, ck_ BK314 3, ck_ BK314 4⟩ (fun hHeld => ?_)
     clear hK K
     refine norm_ (a' := ?_) ?_ ?_
     rotate_left
     ·
      show Act.put _ (some 93) _ = _
      simp only [Act.put, sa_, s0_, s1_, i64_w, i32_w]
      rfl
     refine one_ (i := 2) (N := some 95) (b_ 9 71) rfl rfl (one_of HT_.out (by kernel_rfl)) (by decide) (fun K hK => ?_)
     refine goes_ Try.func14 (by kernel_rfl) rfl #[.agg #[.slice Ao90 t364.length co90, .int .i64 t367, .int .i64 t368], .agg #[.int .u8 2, .int .i64 1, .int .i64 30, .int .i64 4, .int .i64 0], .int .i64 30] (by rfl) rfl rfl (by (try simp only [List.map_toArray, List.map_cons, List.map_nil]); first | done | rfl | (simp only [List.length_drop, List.length_take]; rfl)) ?_
     with_reducible refine (task_Lapse.calls kj6 _ _ t364 t367 t368 2 1 30 4 0 30 t369 t370 t371 t372 t373 t374 _ ?side1 ?side2 A31.out).mono ?_
     (case side1 => repeat (first | exact (Kd.R_reads' HO366.out).2.2 | (with_reducible refine Kd.C_alloc ?_ _) | (with_reducible refine Kd.C_drewN ?_ _) | (with_reducible refine Kd.C_drew ?_)))
     (case side2 => exact (Kd.R_reads' HO366.out).2.1)
     rintro e w91 ⟨rfl, hb⟩
     refine ⟨_, rfl, ?_⟩
     replace HO318 := Aside0.mk (Kd.R_below (rr_ HO318.out) hb)
     replace HO330 := Aside0.mk (Kd.R_below (rr_ HO330.out) hb)
     replace HO342 := Aside0.mk (Kd.R_below (rr_ HO342.out) hb)
     replace HO354 := Aside0.mk (Kd.R_below (rr_ HO354.out) hb)
     replace HO366 := Aside0.mk (Kd.R_below (rr_ HO366.out) hb)
     replace BK314 := bs_ BK314 hb
     replace BK315 := bs_ BK315 hb
     replace BK327 := bs_ BK327 hb
     replace BK339 := bs_ BK339 hb
     replace BK351 := bs_ BK351 hb
     replace BK363 := bs_ BK363 hb
     replace BK375 := bs_ BK375 hb
     replace HB := Aside0.mk (below_step (hB_ HB.out) hb)
     (try clear hb)
     (try clear hb2)
     (try clear hk)
     (try clear hi)
     refine hK.out _ _ ⟨ck_ BK314 0, ck_ BK314 1, ck_ BK314 2, ck_ BK314 3, ck_ BK314 4⟩ (fun hHeld => ?_)
     clear hK K
     refine norm_ (a' := ?_) ?_ ?_
     rotate_left
     ·
      show Act.put _ (some 95) _ = _
      simp only [Act.put, sa_, s0_, s1_, i64_w, i32_w]
      rfl
     refine pA_ 3 92 ?_ (b_ 9 79) (any_of HT_.out (by kernel_rfl)) rfl rfl (fun _ _ _ h => h) (by rfl) ?_ ?_ ?_ ?_; rotate_left
     · intro w'; go_simp; with_reducible rfl
     rotate_left
     · simp only [Act.put, sa_, s0_, s1_, i64_w, i32_w]; rfl
     refine pA_ 4 96 ?_ (b_ 9 95) (any_of HT_.out (by kernel_rfl)) rfl rfl (fun _ _ _ h => h) (by rfl) ?_ ?_ ?_ ?_; rotate_left
     · intro w'; go_simp; with_reducible rfl
     rotate_left
     · simp only [Act.put, sa_, s0_, s1_, i64_w, i32_w]; rfl
     refine pA_ 5 97 ?_ (b_ 9 127) (any_of HT_.out (by kernel_rfl)) rfl rfl (fun _ _ _ h => h) (by rfl) ?_ ?_ ?_ ?_; rotate_left
     · intro w'; go_simp; with_reducible rfl
     rotate_left
     · simp only [Act.put, sa_, s0_, s1_, i64_w, i32_w]; rfl
     exact norm_ (by simp only [putAll, Act.put, sa_, s0_, s1_]) (hCont (.slice Ao90 t364.length co90, gb375) _ ⟨hHeld, (rr_ (Kd.R_mono HO318.out (fun _ hk => ⟨hk.1.1, ⟨hk.1.2.1, ⟨hk.1.2.2, hk.2⟩⟩⟩))), (rr_ (Kd.R_mono HO330.out (fun _ hk => ⟨hk.1.1, ⟨hk.1.2.1, ⟨hk.1.2.2, hk.2⟩⟩⟩))), (rr_ (Kd.R_mono HO342.out (fun _ hk => ⟨hk.1.1, ⟨hk.1.2.1, ⟨hk.1.2.2, hk.2⟩⟩⟩))), (rr_ (Kd.R_mono HO354.out (fun _ hk => ⟨hk.1.1, ⟨hk.1.2.1, ⟨hk.1.2.2, hk.2⟩⟩⟩))), (rr_ (Kd.R_mono HO366.out (fun _ hk => ⟨hk.1.1.1.2, ⟨hk.1.1.2, ⟨hk.1.2, hk.2⟩⟩⟩))), bq_, bq_, bq_, bq_, bq_, bq_, bq_, GW375.out, GE375.out, NB314_375.out, NB375_314.out, NB315_375.out, NB375_315.out, NB327_375.out, NB375_327.out, NB339_375.out, NB375_339.out, NB351_375.out, NB375_351.out, NB363_375.out, NB375_363.out, hq_⟩)
   rintro ⟨v365, gb375⟩ w92 ⟨hS_, h0_, h1_, h2_, h3_, h4_, h5_, h6_, h7_, h8_, h9_, h10_, h11_, h12_, h13_, h14_, h15_, h16_, h17_, h18_, h19_, h20_, h21_, h22_, h23_, h24_, h25_, h26_⟩
   (try dsimp only at h0_ h1_ h2_ h3_ h4_ h5_ h6_ h7_ h8_ h9_ h10_ h11_ h12_ h13_ h14_ h15_ h16_ h17_ h18_ h19_ h20_ h21_ h22_ h23_ h24_ h25_ h26_)
   have n0_ := Aside0.mk h0_
   have n1_ := Aside0.mk h1_
   have n2_ := Aside0.mk h2_
   have n3_ := Aside0.mk h3_
   have n4_ := Aside0.mk h4_
   have n5_ := Aside0.mk h5_
   have n6_ := Aside0.mk h6_
   have n7_ := Aside0.mk h7_
   have n8_ := Aside0.mk h8_
   have n9_ := Aside0.mk h9_
   have n10_ := Aside0.mk h10_
   have n11_ := Aside0.mk h11_
   have n12_ := Aside0.mk h12_
   have n13_ := Aside0.mk h13_
   have n14_ := Aside0.mk h14_
   have n15_ := Aside0.mk h15_
   have n16_ := Aside0.mk h16_
   have n17_ := Aside0.mk h17_
   have n18_ := Aside0.mk h18_
   have n19_ := Aside0.mk h19_
   have n20_ := Aside0.mk h20_
   have n21_ := Aside0.mk h21_
   have n22_ := Aside0.mk h22_
   have n23_ := Aside0.mk h23_
   have n24_ := Aside0.mk h24_
   have n25_ := Aside0.mk h25_
   have n26_ := Aside0.mk h26_
   clear HO318
   clear HO330
   clear HO342
   clear HO354
   clear BK314
   clear BK315
   clear BK327
   clear BK339
   clear BK351
   clear BK363
   clear HB
   clear h0_ h1_ h2_ h3_ h4_ h5_ h6_ h7_ h8_ h9_ h10_ h11_ h12_ h13_ h14_ h15_ h16_ h17_ h18_ h19_ h20_ h21_ h22_ h23_ h24_ h25_ h26_
   have HO318 := n0_
   have HO330 := n1_
   have HO342 := n2_
   have HO354 := n3_
   have HO366 := n4_
   have BK314 := n5_
   have BK315 := n6_
   have BK327 := n7_
   have BK339 := n8_
   have BK351 := n9_
   have BK363 := n10_
   have BK375 := n11_
   have GW375 := n12_
   have GE375 := n13_
   have NB314_375 := n14_
   have NB375_314 := n15_
   have NB315_375 := n16_
   have NB375_315 := n17_
   have NB327_375 := n18_
   have NB375_327 := n19_
   have NB339_375 := n20_
   have NB375_339 := n21_
   have NB351_375 := n22_
   have NB375_351 := n23_
   have NB363_375 := n24_
   have NB375_363 := n25_
   have HB := n26_
   clear n0_ n1_ n2_ n3_ n4_ n5_ n6_ n7_ n8_ n9_ n10_ n11_ n12_ n13_ n14_ n15_ n16_ n17_ n18_ n19_ n20_ n21_ n22_ n23_ n24_ n25_ n26_
   have hHeld : w92.cell? ⟨gb314, 0, none⟩ = some (.int .u8 2) ∧ w92.cell? ⟨gb314, 1, none⟩ = some (.int .i64 1) ∧ w92.cell? ⟨gb314, 2, none⟩ = some (.int .i64 30) ∧ w92.cell? ⟨gb314, 3, none⟩ = some (.int .i64 4) ∧ w92.cell? ⟨gb314, 4, none⟩ = some (.int .i64 0) := hS_
   refine norm_ (a' := ?_) ?_ ?_; rotate_left
   · simp only [putAll, Act.put, sa_, s0_, s1_]; rfl
   refine one_ (i := 7) (N := none) (b_ 9 255) rfl rfl (one_of HT_.out (by kernel_rfl)) (by decide) (fun K hK => ?_)
   have hs93 : w92.cell? ⟨gb375, 0, none⟩ = some (.int .u8 0) := ck_ BK375 0
   have hfs93 := blk_frozen BK375.out 0
   have hns93_0 := NB314_375.out
   have hns93_1 := NB315_375.out
   have hns93_2 := NB327_375.out
   have hns93_3 := NB339_375.out
   have hns93_4 := NB351_375.out
   have hns93_5 := NB363_375.out
   have hms93_0 := NB375_314.out
   have hms93_1 := NB375_315.out
   have hms93_2 := NB375_327.out
   have hms93_3 := NB375_339.out
   have hms93_4 := NB375_351.out
   have hms93_5 := NB375_363.out
   have hs94 : w92.cell? ⟨gb375, 1, none⟩ = some (.int .i64 0) := ck_ BK375 1
   have hfs94 := blk_frozen BK375.out 1
   have hns94_0 := NB314_375.out
   have hns94_1 := NB315_375.out
   have hns94_2 := NB327_375.out
   have hns94_3 := NB339_375.out
   have hns94_4 := NB351_375.out
   have hns94_5 := NB363_375.out
   have hms94_0 := NB375_314.out
   have hms94_1 := NB375_315.out
   have hms94_2 := NB375_327.out
   have hms94_3 := NB375_339.out
   have hms94_4 := NB375_351.out
   have hms94_5 := NB375_363.out
   have hs95 : w92.cell? ⟨gb375, 2, none⟩ = some (.int .i64 0) := ck_ BK375 2
   have hfs95 := blk_frozen BK375.out 2
   have hns95_0 := NB314_375.out
   have hns95_1 := NB315_375.out
   have hns95_2 := NB327_375.out
   have hns95_3 := NB339_375.out
   have hns95_4 := NB351_375.out
   have hns95_5 := NB363_375.out
   have hms95_0 := NB375_314.out
   have hms95_1 := NB375_315.out
   have hms95_2 := NB375_327.out
   have hms95_3 := NB375_339.out
   have hms95_4 := NB375_351.out
   have hms95_5 := NB375_363.out
   have hs96 : w92.cell? ⟨gb375, 3, none⟩ = some (.int .i64 0) := ck_ BK375 3
   have hfs96 := blk_frozen BK375.out 3
   have hns96_0 := NB314_375.out
   have hns96_1 := NB315_375.out
   have hns96_2 := NB327_375.out
   have hns96_3 := NB339_375.out
   have hns96_4 := NB351_375.out
   have hns96_5 := NB363_375.out
   have hms96_0 := NB375_314.out
   have hms96_1 := NB375_315.out
   have hms96_2 := NB375_327.out
   have hms96_3 := NB375_339.out
   have hms96_4 := NB375_351.out
   have hms96_5 := NB375_363.out
   have hs97 : w92.cell? ⟨gb375, 4, none⟩ = some (.int .i64 0) := ck_ BK375 4
   have hfs97 := blk_frozen BK375.out 4
   have hns97_0 := NB314_375.out
   have hns97_1 := NB315_375.out
   have hns97_2 := NB327_375.out
   have hns97_3 := NB339_375.out
   have hns97_4 := NB351_375.out
   have hns97_5 := NB363_375.out
   have hms97_0 := NB375_314.out
   have hms97_1 := NB375_315.out
   have hms97_2 := NB375_327.out
   have hms97_3 := NB375_339.out
   have hms97_4 := NB375_351.out
   have hms97_5 := NB375_363.out
   refine skip_ (w1 := ?_) (by rfl) rfl ?_ ?_; rotate_left
   · go_simp; rfl
   refine hK.out _ _ ⟨((cell_far (p := ⟨gb375, _, none⟩) NB314_375.out _).trans (((cell_far (p := ⟨gb375, _, none⟩) NB314_375.out _).trans (((cell_far (p := ⟨gb375, _, none⟩) NB314_375.out _).trans (((cell_far (p := ⟨gb375, _, none⟩) NB314_375.out _).trans (((cell_far (p := ⟨gb375, _, none⟩) NB314_375.out _).trans (hHeld.1)))))))))), ((cell_far (p := ⟨gb375, _, none⟩) NB314_375.out _).trans (((cell_far (p := ⟨gb375, _, none⟩) NB314_375.out _).trans (((cell_far (p := ⟨gb375, _, none⟩) NB314_375.out _).trans (((cell_far (p := ⟨gb375, _, none⟩) NB314_375.out _).trans (((cell_far (p := ⟨gb375, _, none⟩) NB314_375.out _).trans (hHeld.2.1)))))))))), ((cell_far (p := ⟨gb375, _, none⟩) NB314_375.out _).trans (((cell_far (p := ⟨gb375, _, none⟩) NB314_375.out _).trans (((cell_far (p := ⟨gb375, _, none⟩) NB314_375.out _).trans (((cell_far (p := ⟨gb375, _, none⟩) NB314_375.out _).trans (((cell_far (p := ⟨gb375, _, none⟩) NB314_375.out _).trans (hHeld.2.2.1)))))))))), ((cell_far (p := ⟨gb375, _, none⟩) NB314_375.out _).trans (((cell_far (p := ⟨gb375, _, none⟩) NB314_375.out _).trans (((cell_far (p := ⟨gb375, _, none⟩) NB314_375.out _).trans (((cell_far (p := ⟨gb375, _, none⟩) NB314_375.out _).trans (((cell_far (p := ⟨gb375, _, none⟩) NB314_375.out _).trans (hHeld.2.2.2.1)))))))))), ((cell_far (p := ⟨gb375, _, none⟩) NB314_375.out _).trans (((cell_far (p := ⟨gb375, _, none⟩) NB314_375.out _).trans (((cell_far (p := ⟨gb375, _, none⟩) NB314_375.out _).trans (((cell_far (p := ⟨gb375, _, none⟩) NB314_375.out _).trans (((cell_far (p := ⟨gb375, _, none⟩) NB314_375.out _).trans (hHeld.2.2.2.2))))))))))⟩ (fun hHeld => ?_)
   clear hK K
   refine pA_ 8 19 ?_ (b_ 9 511) (any_of HT_.out (by kernel_rfl)) rfl rfl (fun _ _ _ h => h) (by rfl) ?_ ?_ ?_ ?_; rotate_left
   · intro w'; go_simp; with_reducible rfl
   rotate_left
   · simp only [Act.put, sa_, s0_, s1_, i64_w, i32_w]; rfl
   refine done_ (done_of HT_.out (by kernel_rfl)) ?_
   try go_wp2
   have n0_ : Aside0 (Kd.R (Kd.int .i64) 3 (((((w92.setCell ⟨gb375, 0, none⟩ (.int .u8 t369)).setCell ⟨gb375, 1, none⟩ (.int .i64 t370)).setCell ⟨gb375, 2, none⟩ (.int .i64 t371)).setCell ⟨gb375, 3, none⟩ (.int .i64 t372)).setCell ⟨gb375, 4, none⟩ (.int .i64 t373)) w.heap.size (fun k_ => some k_ ≠ (.slice Ao55 t328.length co55 : Value).ownBlock ∧ some k_ ≠ (v341 : Value).ownBlock ∧ some k_ ≠ (v353 : Value).ownBlock ∧ some k_ ≠ (v365 : Value).ownBlock) v317 t316) := ⟨rr_ (Kd.R_mono (Kd.R_far (p := ⟨gb375, 4, none⟩) (Kd.R_far (p := ⟨gb375, 3, none⟩) (Kd.R_far (p := ⟨gb375, 2, none⟩) (Kd.R_far (p := ⟨gb375, 1, none⟩) (Kd.R_far (p := ⟨gb375, 0, none⟩) (Kd.R_types HO318.out BK375.out (by decide)) (fun _ hk => hk.2) (.int .u8 t369)) (fun _ hk => hk.2) (.int .i64 t370)) (fun _ hk => hk.2) (.int .i64 t371)) (fun _ hk => hk.2) (.int .i64 t372)) (fun _ hk => hk.2) (.int .i64 t373)) (fun _ hk => ⟨hk.1.1, ⟨hk.1.2.1, ⟨hk.1.2.2.1, hk.1.2.2.2⟩⟩⟩))⟩
   have n1_ : Aside0 (Kd.R (Kd.int .i64) 3 (((((w92.setCell ⟨gb375, 0, none⟩ (.int .u8 t369)).setCell ⟨gb375, 1, none⟩ (.int .i64 t370)).setCell ⟨gb375, 2, none⟩ (.int .i64 t371)).setCell ⟨gb375, 3, none⟩ (.int .i64 t372)).setCell ⟨gb375, 4, none⟩ (.int .i64 t373)) w.heap.size (fun k_ => some k_ ≠ (v317 : Value).ownBlock ∧ some k_ ≠ (v341 : Value).ownBlock ∧ some k_ ≠ (v353 : Value).ownBlock ∧ some k_ ≠ (v365 : Value).ownBlock) (.slice Ao55 t328.length co55) t328) := ⟨rr_ (Kd.R_mono (Kd.R_far (p := ⟨gb375, 4, none⟩) (Kd.R_far (p := ⟨gb375, 3, none⟩) (Kd.R_far (p := ⟨gb375, 2, none⟩) (Kd.R_far (p := ⟨gb375, 1, none⟩) (Kd.R_far (p := ⟨gb375, 0, none⟩) (Kd.R_types HO330.out BK375.out (by decide)) (fun _ hk => hk.2) (.int .u8 t369)) (fun _ hk => hk.2) (.int .i64 t370)) (fun _ hk => hk.2) (.int .i64 t371)) (fun _ hk => hk.2) (.int .i64 t372)) (fun _ hk => hk.2) (.int .i64 t373)) (fun _ hk => ⟨hk.1.1, ⟨hk.1.2.1, ⟨hk.1.2.2.1, hk.1.2.2.2⟩⟩⟩))⟩
   have n2_ : Aside0 (Kd.R (Kd.int .i64) 3 (((((w92.setCell ⟨gb375, 0, none⟩ (.int .u8 t369)).setCell ⟨gb375, 1, none⟩ (.int .i64 t370)).setCell ⟨gb375, 2, none⟩ (.int .i64 t371)).setCell ⟨gb375, 3, none⟩ (.int .i64 t372)).setCell ⟨gb375, 4, none⟩ (.int .i64 t373)) w.heap.size (fun k_ => some k_ ≠ (v317 : Value).ownBlock ∧ some k_ ≠ (.slice Ao55 t328.length co55 : Value).ownBlock ∧ some k_ ≠ (v353 : Value).ownBlock ∧ some k_ ≠ (v365 : Value).ownBlock) v341 t340) := ⟨rr_ (Kd.R_mono (Kd.R_far (p := ⟨gb375, 4, none⟩) (Kd.R_far (p := ⟨gb375, 3, none⟩) (Kd.R_far (p := ⟨gb375, 2, none⟩) (Kd.R_far (p := ⟨gb375, 1, none⟩) (Kd.R_far (p := ⟨gb375, 0, none⟩) (Kd.R_types HO342.out BK375.out (by decide)) (fun _ hk => hk.2) (.int .u8 t369)) (fun _ hk => hk.2) (.int .i64 t370)) (fun _ hk => hk.2) (.int .i64 t371)) (fun _ hk => hk.2) (.int .i64 t372)) (fun _ hk => hk.2) (.int .i64 t373)) (fun _ hk => ⟨hk.1.1, ⟨hk.1.2.1, ⟨hk.1.2.2.1, hk.1.2.2.2⟩⟩⟩))⟩
   have n3_ : Aside0 (Kd.R (Kd.int .i64) 3 (((((w92.setCell ⟨gb375, 0, none⟩ (.int .u8 t369)).setCell ⟨gb375, 1, none⟩ (.int .i64 t370)).setCell ⟨gb375, 2, none⟩ (.int .i64 t371)).setCell ⟨gb375, 3, none⟩ (.int .i64 t372)).setCell ⟨gb375, 4, none⟩ (.int .i64 t373)) w.heap.size (fun k_ => some k_ ≠ (v317 : Value).ownBlock ∧ some k_ ≠ (.slice Ao55 t328.length co55 : Value).ownBlock ∧ some k_ ≠ (v341 : Value).ownBlock ∧ some k_ ≠ (v365 : Value).ownBlock) v353 t352) := ⟨rr_ (Kd.R_mono (Kd.R_far (p := ⟨gb375, 4, none⟩) (Kd.R_far (p := ⟨gb375, 3, none⟩) (Kd.R_far (p := ⟨gb375, 2, none⟩) (Kd.R_far (p := ⟨gb375, 1, none⟩) (Kd.R_far (p := ⟨gb375, 0, none⟩) (Kd.R_types HO354.out BK375.out (by decide)) (fun _ hk => hk.2) (.int .u8 t369)) (fun _ hk => hk.2) (.int .i64 t370)) (fun _ hk => hk.2) (.int .i64 t371)) (fun _ hk => hk.2) (.int .i64 t372)) (fun _ hk => hk.2) (.int .i64 t373)) (fun _ hk => ⟨hk.1.1, ⟨hk.1.2.1, ⟨hk.1.2.2.1, hk.1.2.2.2⟩⟩⟩))⟩
   have n4_ : Aside0 (Kd.R (Kd.int .i64) 3 (((((w92.setCell ⟨gb375, 0, none⟩ (.int .u8 t369)).setCell ⟨gb375, 1, none⟩ (.int .i64 t370)).setCell ⟨gb375, 2, none⟩ (.int .i64 t371)).setCell ⟨gb375, 3, none⟩ (.int .i64 t372)).setCell ⟨gb375, 4, none⟩ (.int .i64 t373)) w.heap.size (fun k_ => some k_ ≠ (v317 : Value).ownBlock ∧ some k_ ≠ (.slice Ao55 t328.length co55 : Value).ownBlock ∧ some k_ ≠ (v341 : Value).ownBlock ∧ some k_ ≠ (v353 : Value).ownBlock) v365 t364) := ⟨rr_ (Kd.R_mono (Kd.R_far (p := ⟨gb375, 4, none⟩) (Kd.R_far (p := ⟨gb375, 3, none⟩) (Kd.R_far (p := ⟨gb375, 2, none⟩) (Kd.R_far (p := ⟨gb375, 1, none⟩) (Kd.R_far (p := ⟨gb375, 0, none⟩) (Kd.R_types HO366.out BK375.out (by decide)) (fun _ hk => hk.2) (.int .u8 t369)) (fun _ hk => hk.2) (.int .i64 t370)) (fun _ hk => hk.2) (.int .i64 t371)) (fun _ hk => hk.2) (.int .i64 t372)) (fun _ hk => hk.2) (.int .i64 t373)) (fun _ hk => ⟨hk.1.1, ⟨hk.1.2.1, ⟨hk.1.2.2.1, hk.1.2.2.2⟩⟩⟩))⟩
   have n5_ : Aside0 ((((((w92.setCell ⟨gb375, 0, none⟩ (.int .u8 t369)).setCell ⟨gb375, 1, none⟩ (.int .i64 t370)).setCell ⟨gb375, 2, none⟩ (.int .i64 t371)).setCell ⟨gb375, 3, none⟩ (.int .i64 t372)).setCell ⟨gb375, 4, none⟩ (.int .i64 t373)).heap[gb314]? = some (.cells #[.int .u8 2, .int .i64 1, .int .i64 30, .int .i64 4, .int .i64 0] 31 (0, 0))) := ⟨bf_⟩
   have n6_ : Aside0 ((((((w92.setCell ⟨gb375, 0, none⟩ (.int .u8 t369)).setCell ⟨gb375, 1, none⟩ (.int .i64 t370)).setCell ⟨gb375, 2, none⟩ (.int .i64 t371)).setCell ⟨gb375, 3, none⟩ (.int .i64 t372)).setCell ⟨gb375, 4, none⟩ (.int .i64 t373)).heap[gb315]? = some (.cells #[.int .u8 3, .int .i64 1, .int .i64 17, .int .i64 0, .int .i64 0] 31 (0, 0))) := ⟨bf_⟩
   have n7_ : Aside0 ((((((w92.setCell ⟨gb375, 0, none⟩ (.int .u8 t369)).setCell ⟨gb375, 1, none⟩ (.int .i64 t370)).setCell ⟨gb375, 2, none⟩ (.int .i64 t371)).setCell ⟨gb375, 3, none⟩ (.int .i64 t372)).setCell ⟨gb375, 4, none⟩ (.int .i64 t373)).heap[gb327]? = some (.cells #[.int .u8 t321, .int .i64 t322, .int .i64 t323, .int .i64 t324, .int .i64 t325] 31 (0, 0))) := ⟨bf_⟩
   have n8_ : Aside0 ((((((w92.setCell ⟨gb375, 0, none⟩ (.int .u8 t369)).setCell ⟨gb375, 1, none⟩ (.int .i64 t370)).setCell ⟨gb375, 2, none⟩ (.int .i64 t371)).setCell ⟨gb375, 3, none⟩ (.int .i64 t372)).setCell ⟨gb375, 4, none⟩ (.int .i64 t373)).heap[gb339]? = some (.cells #[.int .u8 t333, .int .i64 t334, .int .i64 t335, .int .i64 t336, .int .i64 t337] 31 (0, 0))) := ⟨bf_⟩
   have n9_ : Aside0 ((((((w92.setCell ⟨gb375, 0, none⟩ (.int .u8 t369)).setCell ⟨gb375, 1, none⟩ (.int .i64 t370)).setCell ⟨gb375, 2, none⟩ (.int .i64 t371)).setCell ⟨gb375, 3, none⟩ (.int .i64 t372)).setCell ⟨gb375, 4, none⟩ (.int .i64 t373)).heap[gb351]? = some (.cells #[.int .u8 t345, .int .i64 t346, .int .i64 t347, .int .i64 t348, .int .i64 t349] 31 (0, 0))) := ⟨bf_⟩
   have n10_ : Aside0 ((((((w92.setCell ⟨gb375, 0, none⟩ (.int .u8 t369)).setCell ⟨gb375, 1, none⟩ (.int .i64 t370)).setCell ⟨gb375, 2, none⟩ (.int .i64 t371)).setCell ⟨gb375, 3, none⟩ (.int .i64 t372)).setCell ⟨gb375, 4, none⟩ (.int .i64 t373)).heap[gb363]? = some (.cells #[.int .u8 t357, .int .i64 t358, .int .i64 t359, .int .i64 t360, .int .i64 t361] 31 (0, 0))) := ⟨bf_⟩
   have n11_ : Aside0 ((((((w92.setCell ⟨gb375, 0, none⟩ (.int .u8 t369)).setCell ⟨gb375, 1, none⟩ (.int .i64 t370)).setCell ⟨gb375, 2, none⟩ (.int .i64 t371)).setCell ⟨gb375, 3, none⟩ (.int .i64 t372)).setCell ⟨gb375, 4, none⟩ (.int .i64 t373)).heap[gb375]? = some (.cells #[.int .u8 t369, .int .i64 t370, .int .i64 t371, .int .i64 t372, .int .i64 t373] 31 (0, 0))) := ⟨by (with_reducible repeat (first | refine blk_drewN ?_ _ | refine blk_drew ?_ | refine blk_alloc ?_ _)); refine blk_put (cs := #[.int .u8 t369, .int .i64 t370, .int .i64 t371, .int .i64 t372, .int .i64 0]) ?_ 4 _ rfl; (with_reducible repeat (first | refine blk_drewN ?_ _ | refine blk_drew ?_ | refine blk_alloc ?_ _)); refine blk_put (cs := #[.int .u8 t369, .int .i64 t370, .int .i64 t371, .int .i64 0, .int .i64 0]) ?_ 3 _ rfl; (with_reducible repeat (first | refine blk_drewN ?_ _ | refine blk_drew ?_ | refine blk_alloc ?_ _)); refine blk_put (cs := #[.int .u8 t369, .int .i64 t370, .int .i64 0, .int .i64 0, .int .i64 0]) ?_ 2 _ rfl; (with_reducible repeat (first | refine blk_drewN ?_ _ | refine blk_drew ?_ | refine blk_alloc ?_ _)); refine blk_put (cs := #[.int .u8 t369, .int .i64 0, .int .i64 0, .int .i64 0, .int .i64 0]) ?_ 1 _ rfl; (with_reducible repeat (first | refine blk_drewN ?_ _ | refine blk_drew ?_ | refine blk_alloc ?_ _)); refine blk_put (cs := #[.int .u8 0, .int .i64 0, .int .i64 0, .int .i64 0, .int .i64 0]) ?_ 0 _ rfl; (with_reducible repeat (first | refine blk_drewN ?_ _ | refine blk_drew ?_ | refine blk_alloc ?_ _)); exact BK375.out⟩
   have n12_ : Aside0 (Below w.heap.size w (((((w92.setCell ⟨gb375, 0, none⟩ (.int .u8 t369)).setCell ⟨gb375, 1, none⟩ (.int .i64 t370)).setCell ⟨gb375, 2, none⟩ (.int .i64 t371)).setCell ⟨gb375, 3, none⟩ (.int .i64 t372)).setCell ⟨gb375, 4, none⟩ (.int .i64 t373))) := ⟨hq_⟩
   (try clear HO318)
   (try clear HO330)
   (try clear HO342)
   (try clear HO354)
   (try clear HO366)
   (try clear BK314)
   (try clear BK315)
   (try clear BK327)
   (try clear BK339)
   (try clear BK351)
   (try clear BK363)
   (try clear BK375)
   (try clear HB)
   generalize (((((w92.setCell ⟨gb375, 0, none⟩ (.int .u8 t369)).setCell ⟨gb375, 1, none⟩ (.int .i64 t370)).setCell ⟨gb375, 2, none⟩ (.int .i64 t371)).setCell ⟨gb375, 3, none⟩ (.int .i64 t372)).setCell ⟨gb375, 4, none⟩ (.int .i64 t373)) = w98 at n0_ n1_ n2_ n3_ n4_ n5_ n6_ n7_ n8_ n9_ n10_ n11_ n12_ ⊢
   have HO318 := n0_
   have HO330 := n1_
   have HO342 := n2_
   have HO354 := n3_
   have HO366 := n4_
   have BK314 := n5_
   have BK315 := n6_
   have BK327 := n7_
   have BK339 := n8_
   have BK351 := n9_
   have BK363 := n10_
   have BK375 := n11_
   have HB := n12_
   clear n0_ n1_ n2_ n3_ n4_ n5_ n6_ n7_ n8_ n9_ n10_ n11_ n12_
   replace HO318 := Aside0.mk (Kd.R_drew HO318.out)
   replace HO330 := Aside0.mk (Kd.R_drew HO330.out)
   replace HO342 := Aside0.mk (Kd.R_drew HO342.out)
   replace HO354 := Aside0.mk (Kd.R_drew HO354.out)
   replace HO366 := Aside0.mk (Kd.R_drew HO366.out)
   replace BK314 := Aside0.mk (blk_drew BK314.out)
   replace BK315 := Aside0.mk (blk_drew BK315.out)
   replace BK327 := Aside0.mk (blk_drew BK327.out)
   replace BK339 := Aside0.mk (blk_drew BK339.out)
   replace BK351 := Aside0.mk (blk_drew BK351.out)
   replace BK363 := Aside0.mk (blk_drew BK363.out)
   replace BK375 := Aside0.mk (blk_drew BK375.out)
   replace HB := Aside0.mk (below_drew1 HB.out)
   refine start_ (n := 9) (S := fun w' => w'.cell? ⟨gb315, 0, none⟩ = some (.int .u8 3) ∧ w'.cell? ⟨gb315, 1, none⟩ = some (.int .i64 1) ∧ w'.cell? ⟨gb315, 2, none⟩ = some (.int .i64 17) ∧ w'.cell? ⟨gb315, 3, none⟩ = some (.int .i64 0) ∧ w'.cell? ⟨gb315, 4, none⟩ = some (.int .i64 0)) (ds := []) (b_ 9 0) (by kernel_rfl) rfl rfl ⟨ck_ BK315 0, ck_ BK315 1, ck_ BK315 2, ck_ BK315 3, ck_ BK315 4⟩ (fun hHeld => ?_); refine with_tabW millhandlaw24_TaskNames.tab12 millhandlaw24_TaskNames.bits12 (fun HT_ HW_ => ?_)
   generalize w98.drew = w99 at HO318 HO330 HO342 HO354 HO366 BK314 BK315 BK327 BK339 BK351 BK363 BK375 HB hHeld ⊢
   refine tA_ 1 100 ?_ (b_ 9 2) (take_ofW HT_.out HW_.out (by kernel_rfl)) rfl rfl (fun _ _ _ h => h) (by rfl) ?_ hHeld ?_ ?_ ?_; rotate_left
   · rintro w' ⟨s0, s1, s2, s3, s4⟩; go_simp; with_reducible rfl
   rotate_left
   · simp only [Act.put, sa_, s0_, s1_, i64_w, i32_w]; rfl
   refine join_ (σ := Value × Nat) 2 (b_ 9 127) (fun s_ => [(99, .agg #[s_.1, .int .i64 t379, .int .i64 t380]), (101, .tuple #[.agg #[.int .u8 t381, .int .i64 t382, .int .i64 t383, .int .i64 t384, .int .i64 t385], .int .i64 t386]), (20, .pointer (some ⟨s_.2, 0, none⟩)), (98, .tuple #[.agg #[.int .u8 t381, .int .i64 t382, .int .i64 t383, .int .i64 t384, .int .i64 t385], .int .i64 t386]), (102, .agg #[.int .u8 t381, .int .i64 t382, .int .i64 t383, .int .i64 t384, .int .i64 t385]), (103, .int .i64 t386)]) (fun s_ w' => (w'.cell? ⟨gb315, 0, none⟩ = some (.int .u8 3) ∧ w'.cell? ⟨gb315, 1, none⟩ = some (.int .i64 1) ∧ w'.cell? ⟨gb315, 2, none⟩ = some (.int .i64 17) ∧ w'.cell? ⟨gb315, 3, none⟩ = some (.int .i64 0) ∧ w'.cell? ⟨gb315, 4, none⟩ = some (.int .i64 0)) ∧ (Kd.R (Kd.int .i64) 3 w' w.heap.size (fun k_ => some k_ ≠ (.slice Ao55 t328.length co55 : Value).ownBlock ∧ some k_ ≠ (v341 : Value).ownBlock ∧ some k_ ≠ (v353 : Value).ownBlock ∧ some k_ ≠ (v365 : Value).ownBlock ∧ some k_ ≠ (s_.1 : Value).ownBlock) v317 t316) ∧ (Kd.R (Kd.int .i64) 3 w' w.heap.size (fun k_ => some k_ ≠ (v317 : Value).ownBlock ∧ some k_ ≠ (v341 : Value).ownBlock ∧ some k_ ≠ (v353 : Value).ownBlock ∧ some k_ ≠ (v365 : Value).ownBlock ∧ some k_ ≠ (s_.1 : Value).ownBlock) (.slice Ao55 t328.length co55) t328) ∧ (Kd.R (Kd.int .i64) 3 w' w.heap.size (fun k_ => some k_ ≠ (v317 : Value).ownBlock ∧ some k_ ≠ (.slice Ao55 t328.length co55 : Value).ownBlock ∧ some k_ ≠ (v353 : Value).ownBlock ∧ some k_ ≠ (v365 : Value).ownBlock ∧ some k_ ≠ (s_.1 : Value).ownBlock) v341 t340) ∧ (Kd.R (Kd.int .i64) 3 w' w.heap.size (fun k_ => some k_ ≠ (v317 : Value).ownBlock ∧ some k_ ≠ (.slice Ao55 t328.length co55 : Value).ownBlock ∧ some k_ ≠ (v341 : Value).ownBlock ∧ some k_ ≠ (v365 : Value).ownBlock ∧ some k_ ≠ (s_.1 : Value).ownBlock) v353 t352) ∧ (Kd.R (Kd.int .i64) 3 w' w.heap.size (fun k_ => some k_ ≠ (v317 : Value).ownBlock ∧ some k_ ≠ (.slice Ao55 t328.length co55 : Value).ownBlock ∧ some k_ ≠ (v341 : Value).ownBlock ∧ some k_ ≠ (v353 : Value).ownBlock ∧ some k_ ≠ (s_.1 : Value).ownBlock) v365 t364) ∧ (Kd.R (Kd.int .i64) 3 w' w.heap.size (fun k_ => some k_ ≠ (v317 : Value).ownBlock ∧ some k_ ≠ (.slice Ao55 t328.length co55 : Value).ownBlock ∧ some k_ ≠ (v341 : Value).ownBlock ∧ some k_ ≠ (v353 : Value).ownBlock ∧ some k_ ≠ (v365 : Value).ownBlock) s_.1 t376) ∧ (w'.heap[gb314]? = some (.cells #[.int .u8 2, .int .i64 1, .int .i64 30, .int .i64 4, .int .i64 0] 31 (0, 0))) ∧ (w'.heap[gb315]? = some (.cells #[.int .u8 3, .int .i64 1, .int .i64 17, .int .i64 0, .int .i64 0] 31 (0, 0))) ∧ (w'.heap[gb327]? = some (.cells #[.int .u8 t321, .int .i64 t322, .int .i64 t323, .int .i64 t324, .int .i64 t325] 31 (0, 0))) ∧ (w'.heap[gb339]? = some (.cells #[.int .u8 t333, .int .i64 t334, .int .i64 t335, .int .i64 t336, .int .i64 t337] 31 (0, 0))) ∧ (w'.heap[gb351]? = some (.cells #[.int .u8 t345, .int .i64 t346, .int .i64 t347, .int .i64 t348, .int .i64 t349] 31 (0, 0))) ∧ (w'.heap[gb363]? = some (.cells #[.int .u8 t357, .int .i64 t358, .int .i64 t359, .int .i64 t360, .int .i64 t361] 31 (0, 0))) ∧ (w'.heap[gb375]? = some (.cells #[.int .u8 t369, .int .i64 t370, .int .i64 t371, .int .i64 t372, .int .i64 t373] 31 (0, 0))) ∧ (w'.heap[s_.2]? = some (.cells #[.int .u8 0, .int .i64 0, .int .i64 0, .int .i64 0, .int .i64 0] 31 (0, 0))) ∧ (w.heap.size ≤ s_.2) ∧ (w.heap.size ≤ s_.2) ∧ (gb314 ≠ s_.2) ∧ (s_.2 ≠ gb314) ∧ (gb315 ≠ s_.2) ∧ (s_.2 ≠ gb315) ∧ (gb327 ≠ s_.2) ∧ (s_.2 ≠ gb327) ∧ (gb339 ≠ s_.2) ∧ (s_.2 ≠ gb339) ∧ (gb351 ≠ s_.2) ∧ (s_.2 ≠ gb351) ∧ (gb363 ≠ s_.2) ∧ (s_.2 ≠ gb363) ∧ (gb375 ≠ s_.2) ∧ (s_.2 ≠ gb375) ∧ (Below w.heap.size w w')) ?_ ?_
   rotate_left
   ·
    intro hCont
    refine two_ (i := 0) (j := 6) (Ni := some 99) (Nj := some 20) (b_ 9 3) (b_ 9 66) rfl rfl rfl rfl (two_of HT_.out (by kernel_rfl)) (by decide) (by decide) (fun K hK => ?_) (fun K hK => ?_)
    ·
     skip
     refine goes_ Try.func11 (by kernel_rfl) rfl #[] (by rfl) rfl rfl (by (try simp only [List.map_toArray, List.map_cons, List.map_nil]); first | done | rfl | (simp only [List.length_drop, List.length_take]; rfl)) ?_
     with_reducible refine (millhandlaw24_node.calls  t376 t379 t380 _ A32.out).mono ?_
     rintro e w100 ⟨v377, rfl, ho0, hb⟩
     refine ⟨_, rfl, ?_⟩
     have HO378 := Aside0.mk (Kd.R_lower (Kd.R_new' (Kd.R_new' (Kd.R_new' (Kd.R_new' (Kd.R_new' ho0 (Kd.R_lt (rr_ HO318.out))) (Kd.R_lt (rr_ HO330.out))) (Kd.R_lt (rr_ HO342.out))) (Kd.R_lt (rr_ HO354.out))) (Kd.R_lt (rr_ HO366.out))) (below_size (hB_ HB.out)))
     replace HO318 := Aside0.mk (Kd.R_elder' (rr_ HO318.out) (Kd.R_base ho0) hb)
     replace HO330 := Aside0.mk (Kd.R_elder' (rr_ HO330.out) (Kd.R_base ho0) hb)
     replace HO342 := Aside0.mk (Kd.R_elder' (rr_ HO342.out) (Kd.R_base ho0) hb)
     replace HO354 := Aside0.mk (Kd.R_elder' (rr_ HO354.out) (Kd.R_base ho0) hb)
     replace HO366 := Aside0.mk (Kd.R_elder' (rr_ HO366.out) (Kd.R_base ho0) hb)
     replace BK314 := bs_ BK314 hb
     replace BK315 := bs_ BK315 hb
     replace BK327 := bs_ BK327 hb
     replace BK339 := bs_ BK339 hb
     replace BK351 := bs_ BK351 hb
     replace BK363 := bs_ BK363 hb
     replace BK375 := bs_ BK375 hb
     replace HB := Aside0.mk (below_step (hB_ HB.out) hb)
     (try clear hb)
     (try clear hb2)
     (try clear hk)
     (try clear hi)
     (try clear ho0)
     obtain ⟨Ao101, co101, eo101⟩ := Kd.R_slice HO378.out
     (first | subst eo101 | (injection eo101 with f1_ f2_ f3_; have f4_ := f1_.symm; have f5_ := f3_.symm; clear f1_ f2_ f3_; subst f4_; subst f5_))
     refine hK.out _ _ ⟨ck_ BK315 0, ck_ BK315 1, ck_ BK315 2, ck_ BK315 3, ck_ BK315 4⟩ (fun hHeld => ?_)
     clear hK K
     refine norm_ (a' := ?_) ?_ ?_
     rotate_left
     ·
      show Act.put _ (some 99) _ = _
      simp only [Act.put, sa_, s0_, s1_, i64_w, i32_w]
      rfl
     refine two_ (i := 2) (j := 6) (Ni := some 101) (Nj := some 20) (b_ 9 7) (b_ 9 67) rfl rfl rfl rfl (two_of HT_.out (by kernel_rfl)) (by decide) (by decide) (fun K hK => ?_) (fun K hK => ?_)
     ·
      skip
      refine goes_ Try.func15 (by kernel_rfl) rfl #[.agg #[.slice Ao101 t376.length co101, .int .i64 t379, .int .i64 t380], .agg #[.int .u8 3, .int .i64 1, .int .i64 17, .int .i64 0, .int .i64 0], .int .i64 8, .int .i64 16] (by rfl) rfl rfl (by (try simp only [List.map_toArray, List.map_cons, List.map_nil]); first | done | rfl | (simp only [List.length_drop, List.length_take]; rfl)) ?_
      with_reducible refine (task_Wake.calls kj6 _ _ t376 t379 t380 3 1 17 0 0 8 16 t381 t382 t383 t384 t385 t386 _ ?side1 ?side2 A33.out).mono ?_
      (case side1 => repeat (first | exact (Kd.R_reads' HO378.out).2.2 | (with_reducible refine Kd.C_alloc ?_ _) | (with_reducible refine Kd.C_drewN ?_ _) | (with_reducible refine Kd.C_drew ?_)))
      (case side2 => exact (Kd.R_reads' HO378.out).2.1)
      rintro e w102 ⟨rfl, hb⟩
      refine ⟨_, rfl, ?_⟩
      replace HO318 := Aside0.mk (Kd.R_below (rr_ HO318.out) hb)
      replace HO330 := Aside0.mk (Kd.R_below (rr_ HO330.out) hb)
      replace HO342 := Aside0.mk (Kd.R_below (rr_ HO342.out) hb)
      replace HO354 := Aside0.mk (Kd.R_below (rr_ HO354.out) hb)
      replace HO366 := Aside0.mk (Kd.R_below (rr_ HO366.out) hb)
      replace HO378 := Aside0.mk (Kd.R_below (rr_ HO378.out) hb)
      replace BK314 := bs_ BK314 hb
      replace BK315 := bs_ BK315 hb
      replace BK327 := bs_ BK327 hb
      replace BK339 := bs_ BK339 hb
      replace BK351 := bs_ BK351 hb
      replace BK363 := bs_ BK363 hb
      replace BK375 := bs_ BK375 hb
      replace HB := Aside0.mk (below_step (hB_ HB.out) hb)
      (try clear hb)
      (try clear hb2)
      (try clear hk)
      (try clear hi)
      refine hK.out _ _ ⟨ck_ BK315 0, ck_ BK315 1, ck_ BK315 2, ck_ BK315 3, ck_ BK315 4⟩ (fun hHeld => ?_)
      clear hK K
      refine norm_ (a' := ?_) ?_ ?_
      rotate_left
      ·
       show Act.put _ (some 101) _ = _
       simp only [Act.put, sa_, s0_, s1_, i64_w, i32_w]
       rfl
      refine pA_ 3 98 ?_ (b_ 9 15) (any_of HT_.out (by kernel_rfl)) rfl rfl (fun _ _ _ h => h) (by rfl) ?_ ?_ ?_ ?_; rotate_left
      · intro w'; go_simp; with_reducible rfl
      rotate_left
      · simp only [Act.put, sa_, s0_, s1_, i64_w, i32_w]; rfl
      refine pA_ 4 102 ?_ (b_ 9 31) (any_of HT_.out (by kernel_rfl)) rfl rfl (fun _ _ _ h => h) (by rfl) ?_ ?_ ?_ ?_; rotate_left
      · intro w'; go_simp; with_reducible rfl
      rotate_left
      · simp only [Act.put, sa_, s0_, s1_, i64_w, i32_w]; rfl
      refine pA_ 5 103 ?_ (b_ 9 63) (any_of HT_.out (by kernel_rfl)) rfl rfl (fun _ _ _ h => h) (by rfl) ?_ ?_ ?_ ?_; rotate_left
      · intro w'; go_simp; with_reducible rfl
      rotate_left
      · simp only [Act.put, sa_, s0_, s1_, i64_w, i32_w]; rfl
      refine one_ (i := 6) (N := some 20) (b_ 9 127) rfl rfl (one_of HT_.out (by kernel_rfl)) (by decide) (fun K hK => ?_)
      refine box_step ?hg (N := 20) ?hd (cs := #[.int .u8 0, .int .i64 0, .int .i64 0, .int .i64 0, .int .i64 0]) (t := 31) ?hr ?_; (case hd => rfl); (case hg => rfl); (case hr => first | (go_simp; done) | (go_simp; rfl))
      intro gb387 hg w103 hbox hb
      replace HO318 := Aside0.mk (Kd.R_below (rr_ HO318.out) hb)
      replace HO330 := Aside0.mk (Kd.R_below (rr_ HO330.out) hb)
      replace HO342 := Aside0.mk (Kd.R_below (rr_ HO342.out) hb)
      replace HO354 := Aside0.mk (Kd.R_below (rr_ HO354.out) hb)
      replace HO366 := Aside0.mk (Kd.R_below (rr_ HO366.out) hb)
      replace HO378 := Aside0.mk (Kd.R_below (rr_ HO378.out) hb)
      have BK387 := Aside0.mk (hbox)
      have GW387 := bz_ (hB_ HB.out) hg
      have GE387 := bz_ (hB_ HB.out) hg
      replace HB := Aside0.mk (below_step (hB_ HB.out) hb)
      have NB314_387 := bn_ BK314 hg
      have NB387_314 := bm_ BK314 hg
      replace BK314 := bs_ BK314 hb
      have NB315_387 := bn_ BK315 hg
      have NB387_315 := bm_ BK315 hg
      replace BK315 := bs_ BK315 hb
      have NB327_387 := bn_ BK327 hg
      have NB387_327 := bm_ BK327 hg
      replace BK327 := bs_ BK327 hb
      have NB339_387 := bn_ BK339 hg
      have NB387_339 := bm_ BK339 hg
      replace BK339 := bs_ BK339 hb
      have NB351_387 := bn_ BK351 hg
      have NB387_351 := bm_ BK351 hg
      replace BK351 := bs_ BK351 hb
      have NB363_387 := bn_ BK363 hg
      have NB387_363 := bm_ BK363 hg
      replace BK363 := bs_ BK363 hb
      have NB375_387 := bn_ BK375 hg
      have NB387_375 := bm_ BK375 hg
      replace BK375 := bs_ BK375 hb
      clear hb hbox hg
      refine hK.out _ _ ⟨ck_ BK315 0, ck_ BK315 1, ck_ BK315 2, ck_ BK315 3, ck_ BK315 4⟩ (fun hHeld => ?_)
      clear hK K
      refine norm_ (a' := ?_) ?_ ?_
      rotate_left
      ·
       show Act.put _ (some 20) _ = _
       simp only [Act.put, sa_, s0_, s1_, i64_w, i32_w]
       rfl
      exact norm_ (by simp only [putAll, Act.put, sa_, s0_, s1_]) (hCont (.slice Ao101 t376.length co101, gb387) _ ⟨hHeld, (rr_ (Kd.R_mono HO318.out (fun _ hk => ⟨hk.1.1, ⟨hk.1.2.1, ⟨hk.1.2.2.1, ⟨hk.1.2.2.2, hk.2⟩⟩⟩⟩))), (rr_ (Kd.R_mono HO330.out (fun _ hk => ⟨hk.1.1, ⟨hk.1.2.1, ⟨hk.1.2.2.1, ⟨hk.1.2.2.2, hk.2⟩⟩⟩⟩))), (rr_ (Kd.R_mono HO342.out (fun _ hk => ⟨hk.1.1, ⟨hk.1.2.1, ⟨hk.1.2.2.1, ⟨hk.1.2.2.2, hk.2⟩⟩⟩⟩))), (rr_ (Kd.R_mono HO354.out (fun _ hk => ⟨hk.1.1, ⟨hk.1.2.1, ⟨hk.1.2.2.1, ⟨hk.1.2.2.2, hk.2⟩⟩⟩⟩))), (rr_ (Kd.R_mono HO366.out (fun _ hk => ⟨hk.1.1, ⟨hk.1.2.1, ⟨hk.1.2.2.1, ⟨hk.1.2.2.2, hk.2⟩⟩⟩⟩))), (rr_ (Kd.R_mono HO378.out (fun _ hk => ⟨hk.1.1.1.1.2, ⟨hk.1.1.1.2, ⟨hk.1.1.2, ⟨hk.1.2, hk.2⟩⟩⟩⟩))), bq_, bq_, bq_, bq_, bq_, bq_, bq_, bq_, GW387.out, GE387.out, NB314_387.out, NB387_314.out, NB315_387.out, NB387_315.out, NB327_387.out, NB387_327.out, NB339_387.out, NB387_339.out, NB351_387.out, NB387_351.out, NB363_387.out, NB387_363.out, NB375_387.out, NB387_375.out, hq_⟩)
     ·
      skip
      refine box_step ?hg (N := 20) ?hd (cs := #[.int .u8 0, .int .i64 0, .int .i64 0, .int .i64 0, .int .i64 0]) (t := 31) ?hr ?_; (case hd => rfl); (case hg => rfl); (case hr => first | (go_simp; done) | (go_simp; rfl))
      intro gb387 hg w101 hbox hb
      replace HO318 := Aside0.mk (Kd.R_below (rr_ HO318.out) hb)
      replace HO330 := Aside0.mk (Kd.R_below (rr_ HO330.out) hb)
      replace HO342 := Aside0.mk (Kd.R_below (rr_ HO342.out) hb)
      replace HO354 := Aside0.mk (Kd.R_below (rr_ HO354.out) hb)
      replace HO366 := Aside0.mk (Kd.R_below (rr_ HO366.out) hb)
      replace HO378 := Aside0.mk (Kd.R_below (rr_ HO378.out) hb)
      have BK387 := Aside0.mk (hbox)
      have GW387 := bz_ (hB_ HB.out) hg
      have GE387 := bz_ (hB_ HB.out) hg
      replace HB := Aside0.mk (below_step (hB_ HB.out) hb)
      have NB314_387 := bn_ BK314 hg
      have NB387_314 := bm_ BK314 hg
      replace BK314 := bs_ BK314 hb
      have NB315_387 := bn_ BK315 hg
      have NB387_315 := bm_ BK315 hg
      replace BK315 := bs_ BK315 hb
      have NB327_387 := bn_ BK327 hg
      have NB387_327 := bm_ BK327 hg
      replace BK327 := bs_ BK327 hb
      have NB339_387 := bn_ BK339 hg
      have NB387_339 := bm_ BK339 hg
      replace BK339 := bs_ BK339 hb
      have NB351_387 := bn_ BK351 hg
      have NB387_351 := bm_ BK351 hg
      replace BK351 := bs_ BK351 hb
      have NB363_387 := bn_ BK363 hg
      have NB387_363 := bm_ BK363 hg
      replace BK363 := bs_ BK363 hb
      have NB375_387 := bn_ BK375 hg
      have NB387_375 := bm_ BK375 hg
      replace BK375 := bs_ BK375 hb
      clear hb hbox hg
      obtain ⟨Ao102, co102, eo102⟩ := Kd.R_slice HO378.out
      (first | subst eo102 | (injection eo102 with f1_ f2_ f3_; have f4_ := f1_.symm; have f5_ := f3_.symm; clear f1_ f2_ f3_; subst f4_; subst f5_))
      refine hK.out _ _ ⟨ck_ BK315 0, ck_ BK315 1, ck_ BK315 2, ck_ BK315 3, ck_ BK315 4⟩ (fun hHeld => ?_)
      clear hK K
      refine norm_ (a' := ?_) ?_ ?_
      rotate_left
      ·
       show Act.put _ (some 20) _ = _
       simp only [Act.put, sa_, s0_, s1_, i64_w, i32_w]
       rfl
      refine one_ (i := 2) (N := some 101) (b_ 9 71) rfl rfl (one_of HT_.out (by kernel_rfl)) (by decide) (fun K hK => ?_)
      refine goes_ Try.func15 (by kernel_rfl) rfl #[.agg #[.slice Ao102 t376.length co102, .int .i64 t379, .int .i64 t380], .agg #[.int .u8 3, .int .i64 1, .int .i64 17, .int .i64 0, .int .i64 0], .int .i64 8, .int .i64 16] (by rfl) rfl rfl (by (try simp only [List.map_toArray, List.map_cons, List.map_nil]); first | done | rfl | (simp only [List.length_drop, List.length_take]; rfl)) ?_
      with_reducible refine (task_Wake.calls kj6 _ _ t376 t379 t380 3 1 17 0 0 8 16 t381 t382 t383 t384 t385 t386 _ ?side1 ?side2 A33.out).mono ?_
      (case side1 => repeat (first | exact (Kd.R_reads' HO378.out).2.2 | (with_reducible refine Kd.C_alloc ?_ _) | (with_reducible refine Kd.C_drewN ?_ _) | (with_reducible refine Kd.C_drew ?_)))
      (case side2 => exact (Kd.R_reads' HO378.out).2.1)
      rintro e w103 ⟨rfl, hb⟩
      refine ⟨_, rfl, ?_⟩
      replace HO318 := Aside0.mk (Kd.R_below (rr_ HO318.out) hb)
      replace HO330 := Aside0.mk (Kd.R_below (rr_ HO330.out) hb)
      replace HO342 := Aside0.mk (Kd.R_below (rr_ HO342.out) hb)
      replace HO354 := Aside0.mk (Kd.R_below (rr_ HO354.out) hb)
      replace HO366 := Aside0.mk (Kd.R_below (rr_ HO366.out) hb)
      replace HO378 := Aside0.mk (Kd.R_below (rr_ HO378.out) hb)
      replace BK314 := bs_ BK314 hb
      replace BK315 := bs_ BK315 hb
      replace BK327 := bs_ BK327 hb
      replace BK339 := bs_ BK339 hb
      replace BK351 := bs_ BK351 hb
      replace BK363 := bs_ BK363 hb
      replace BK375 := bs_ BK375 hb
      replace BK387 := bs_ BK387 hb
      replace HB := Aside0.mk (below_step (hB_ HB.out) hb)
      (try clear hb)
      (try clear hb2)
      (try clear hk)
      (try clear hi)
      refine hK.out _ _ ⟨ck_ BK315 0, ck_ BK315 1, ck_ BK315 2, ck_ BK315 3, ck_ BK315 4⟩ (fun hHeld => ?_)
      clear hK K
      refine norm_ (a' := ?_) ?_ ?_
      rotate_left
      ·
       show Act.put _ (some 101) _ = _
       simp only [Act.put, sa_, s0_, s1_, i64_w, i32_w]
       rfl
      refine pA_ 3 98 ?_ (b_ 9 79) (any_of HT_.out (by kernel_rfl)) rfl rfl (fun _ _ _ h => h) (by rfl) ?_ ?_ ?_ ?_; rotate_left
      · intro w'; go_simp; with_reducible rfl
      rotate_left
      · simp only [Act.put, sa_, s0_, s1_, i64_w, i32_w]; rfl
      refine pA_ 4 102 ?_ (b_ 9 95) (any_of HT_.out (by kernel_rfl)) rfl rfl (fun _ _ _ h => h) (by rfl) ?_ ?_ ?_ ?_; rotate_left
      · intro w'; go_simp; with_reducible rfl
      rotate_left
      · simp only [Act.put, sa_, s0_, s1_, i64_w, i32_w]; rfl
      refine pA_ 5 103 ?_ (b_ 9 127) (any_of HT_.out (by kernel_rfl)) rfl rfl (fun _ _ _ h => h) (by rfl) ?_ ?_ ?_ ?_; rotate_left
      · intro w'; go_simp; with_reducible rfl
      rotate_left
      · simp only [Act.put, sa_, s0_, s1_, i64_w, i32_w]; rfl
      exact norm_ (by simp only [putAll, Act.put, sa_, s0_, s1_]) (hCont (.slice Ao102 t376.length co102, gb387) _ ⟨hHeld, (rr_ (Kd.R_mono HO318.out (fun _ hk => ⟨hk.1.1, ⟨hk.1.2.1, ⟨hk.1.2.2.1, ⟨hk.1.2.2.2, hk.2⟩⟩⟩⟩))), (rr_ (Kd.R_mono HO330.out (fun _ hk => ⟨hk.1.1, ⟨hk.1.2.1, ⟨hk.1.2.2.1, ⟨hk.1.2.2.2, hk.2⟩⟩⟩⟩))), (rr_ (Kd.R_mono HO342.out (fun _ hk => ⟨hk.1.1, ⟨hk.1.2.1, ⟨hk.1.2.2.1, ⟨hk.1.2.2.2, hk.2⟩⟩⟩⟩))), (rr_ (Kd.R_mono HO354.out (fun _ hk => ⟨hk.1.1, ⟨hk.1.2.1, ⟨hk.1.2.2.1, ⟨hk.1.2.2.2, hk.2⟩⟩⟩⟩))), (rr_ (Kd.R_mono HO366.out (fun _ hk => ⟨hk.1.1, ⟨hk.1.2.1, ⟨hk.1.2.2.1, ⟨hk.1.2.2.2, hk.2⟩⟩⟩⟩))), (rr_ (Kd.R_mono HO378.out (fun _ hk => ⟨hk.1.1.1.1.2, ⟨hk.1.1.1.2, ⟨hk.1.1.2, ⟨hk.1.2, hk.2⟩⟩⟩⟩))), bq_, bq_, bq_, bq_, bq_, bq_, bq_, bq_, GW387.out, GE387.out, NB314_387.out, NB387_314.out, NB315_387.out, NB387_315.out, NB327_387.out, NB387_327.out, NB339_387.out, NB387_339.out, NB351_387.out, NB387_351.out, NB363_387.out, NB387_363.out, NB375_387.out, NB387_375.out, hq_⟩)
    ·
     skip
     refine box_step ?hg (N := 20) ?hd (cs := #[.int .u8 0, .int .i64 0, .int .i64 0, .int .i64 0, .int .i64 0]) (t := 31) ?hr ?_; (case hd => rfl); (case hg => rfl); (case hr => first | (go_simp; done) | (go_simp; rfl))
     intro gb387 hg w100 hbox hb
     replace HO318 := Aside0.mk (Kd.R_below (rr_ HO318.out) hb)
     replace HO330 := Aside0.mk (Kd.R_below (rr_ HO330.out) hb)
     replace HO342 := Aside0.mk (Kd.R_below (rr_ HO342.out) hb)
     replace HO354 := Aside0.mk (Kd.R_below (rr_ HO354.out) hb)
     replace HO366 := Aside0.mk (Kd.R_below (rr_ HO366.out) hb)
     have BK387 := Aside0.mk (hbox)
     have GW387 := bz_ (hB_ HB.out) hg
     have GE387 := bz_ (hB_ HB.out) hg
     replace HB := Aside0.mk (below_step (hB_ HB.out) hb)
     have NB314_387 := bn_ BK314 hg
     have NB387_314 := bm_ BK314 hg
     replace BK314 := bs_ BK314 hb
     have NB315_387 := bn_ BK315 hg
     have NB387_315 := bm_ BK315 hg
     replace BK315 := bs_ BK315 hb
     have NB327_387 := bn_ BK327 hg
     have NB387_327 := bm_ BK327 hg
     replace BK327 := bs_ BK327 hb
     have NB339_387 := bn_ BK339 hg
     have NB387_339 := bm_ BK339 hg
     replace BK339 := bs_ BK339 hb
     have NB351_387 := bn_ BK351 hg
     have NB387_351 := bm_ BK351 hg
     replace BK351 := bs_ BK351 hb
     have NB363_387 := bn_ BK363 hg
     have NB387_363 := bm_ BK363 hg
     replace BK363 := bs_ BK363 hb
     have NB375_387 := bn_ BK375 hg
     have NB387_375 := bm_ BK375 hg
     replace BK375 := bs_ BK375 hb
     clear hb hbox hg
     refine hK.out _ _ ⟨ck_ BK315 0, ck_ BK315 1, ck_ BK315 2, ck_ BK315 3, ck_ BK315 4⟩ (fun hHeld => ?_)
     clear hK K
     refine norm_ (a' := ?_) ?_ ?_
     rotate_left
     ·
      show Act.put _ (some 20) _ = _
      simp only [Act.put, sa_, s0_, s1_, i64_w, i32_w]
      rfl
     refine one_ (i := 0) (N := some 99) (b_ 9 67) rfl rfl (one_of HT_.out (by kernel_rfl)) (by decide) (fun K hK => ?_)
     refine goes_ Try.func11 (by kernel_rfl) rfl #[] (by rfl) rfl rfl (by (try simp only [List.map_toArray, List.map_cons, List.map_nil]); first | done | rfl | (simp only [List.length_drop, List.length_take]; rfl)) ?_
     with_reducible refine (millhandlaw24_node.calls  t376 t379 t380 _ A32.out).mono ?_
     rintro e w101 ⟨v377, rfl, ho0, hb⟩
     refine ⟨_, rfl, ?_⟩
     have HO378 := Aside0.mk (Kd.R_lower (Kd.R_new' (Kd.R_new' (Kd.R_new' (Kd.R_new' (Kd.R_new' ho0 (Kd.R_lt (rr_ HO318.out))) (Kd.R_lt (rr_ HO330.out))) (Kd.R_lt (rr_ HO342.out))) (Kd.R_lt (rr_ HO354.out))) (Kd.R_lt (rr_ HO366.out))) (below_size (hB_ HB.out)))
     replace HO318 := Aside0.mk (Kd.R_elder' (rr_ HO318.out) (Kd.R_base ho0) hb)
     replace HO330 := Aside0.mk (Kd.R_elder' (rr_ HO330.out) (Kd.R_base ho0) hb)
     replace HO342 := Aside0.mk (Kd.R_elder' (rr_ HO342.out) (Kd.R_base ho0) hb)
     replace HO354 := Aside0.mk (Kd.R_elder' (rr_ HO354.out) (Kd.R_base ho0) hb)
     replace HO366 := Aside0.mk (Kd.R_elder' (rr_ HO366.out) (Kd.R_base ho0) hb)
     replace BK314 := bs_ BK314 hb
     replace BK315 := bs_ BK315 hb
     replace BK327 := bs_ BK327 hb
     replace BK339 := bs_ BK339 hb
     replace BK351 := bs_ BK351 hb
     replace BK363 := bs_ BK363 hb
     replace BK375 := bs_ BK375 hb
     replace BK387 := bs_ BK387 hb
     replace HB := Aside0.mk (below_step (hB_ HB.out) hb)
     (try clear hb)
     (try clear hb2)
     (try clear hk)
     (try clear hi)
     (try clear ho0)
     obtain ⟨Ao102, co102, eo102⟩ := Kd.R_slice HO378.out
     (first | subst eo102 | (injection eo102 with f1_ f2_ f3_; have f4_ := f1_.symm; have f5_ := f3_.symm; clear f1_ f2_ f3_; subst f4_; subst f5_))
     refine hK.out _ _ ⟨ck_ BK315 0, ck_ BK315 1, ck_ BK315 2, ck_ BK315 3, ck_ BK315 4⟩ (fun hHeld => ?_)
     clear hK K
     refine norm_ (a' := ?_) ?_ ?_
     rotate_left
     ·
      show Act.put _ (some 99) _ = _
      simp only [Act.put, sa_, s0_, s1_, i64_w, i32_w]
      rfl
     refine one_ (i := 2) (N := some 101) (b_ 9 71) rfl rfl (one_of HT_.out (by kernel_rfl)) (by decide) (fun K hK => ?_)
     refine goes_ Try.func15 (by kernel_rfl) rfl #[.agg #[.slice Ao102 t376.length co102, .int .i64 t379, .int .i64 t380], .agg #[.int .u8 3, .int .i64 1, .int .i64 17, .int .i64 0, .int .i64 0], .int .i64 8, .int .i64 16] (by rfl) rfl rfl (by (try simp only [List.map_toArray, List.map_cons, List.map_nil]); first | done | rfl | (simp only [List.length_drop, List.length_take]; rfl)) ?_
     with_reducible refine (task_Wake.calls kj6 _ _ t376 t379 t380 3 1 17 0 0 8 16 t381 t382 t383 t384 t385 t386 _ ?side1 ?side2 A33.out).mono ?_
     (case side1 => repeat (first | exact (Kd.R_reads' HO378.out).2.2 | (with_reducible refine Kd.C_alloc ?_ _) | (with_reducible refine Kd.C_drewN ?_ _) | (with_reducible refine Kd.C_drew ?_)))
     (case side2 => exact (Kd.R_reads' HO378.out).2.1)
     rintro e w103 ⟨rfl, hb⟩
     refine ⟨_, rfl, ?_⟩
     replace HO318 := Aside0.mk (Kd.R_below (rr_ HO318.out) hb)
     replace HO330 := Aside0.mk (Kd.R_below (rr_ HO330.out) hb)
     replace HO342 := Aside0.mk (Kd.R_below (rr_ HO342.out) hb)
     replace HO354 := Aside0.mk (Kd.R_below (rr_ HO354.out) hb)
     replace HO366 := Aside0.mk (Kd.R_below (rr_ HO366.out) hb)
     replace HO378 := Aside0.mk (Kd.R_below (rr_ HO378.out) hb)
     replace BK314 := bs_ BK314 hb
     replace BK315 := bs_ BK315 hb
     replace BK327 := bs_ BK327 hb
     replace BK339 := bs_ BK339 hb
     replace BK351 := bs_ BK351 hb
     replace BK363 := bs_ BK363 hb
     replace BK375 := bs_ BK375 hb
     replace BK387 := bs_ BK387 hb
     replace HB := Aside0.mk (below_step (hB_ HB.out) hb)
     (try clear hb)
     (try clear hb2)
     (try clear hk)
     (try clear hi)
     refine hK.out _ _ ⟨ck_ BK315 0, ck_ BK315 1, ck_ BK315 2, ck_ BK315 3, ck_ BK315 4⟩ (fun hHeld => ?_)
     clear hK K
     refine norm_ (a' := ?_) ?_ ?_
     rotate_left
     ·
      show Act.put _ (some 101) _ = _
      simp only [Act.put, sa_, s0_, s1_, i64_w, i32_w]
      rfl
     refine pA_ 3 98 ?_ (b_ 9 79) (any_of HT_.out (by kernel_rfl)) rfl rfl (fun _ _ _ h => h) (by rfl) ?_ ?_ ?_ ?_; rotate_left
     · intro w'; go_simp; with_reducible rfl
     rotate_left
     · simp only [Act.put, sa_, s0_, s1_, i64_w, i32_w]; rfl
     refine pA_ 4 102 ?_ (b_ 9 95) (any_of HT_.out (by kernel_rfl)) rfl rfl (fun _ _ _ h => h) (by rfl) ?_ ?_ ?_ ?_; rotate_left
     · intro w'; go_simp; with_reducible rfl
     rotate_left
     · simp only [Act.put, sa_, s0_, s1_, i64_w, i32_w]; rfl
     refine pA_ 5 103 ?_ (b_ 9 127) (any_of HT_.out (by kernel_rfl)) rfl rfl (fun _ _ _ h => h) (by rfl) ?_ ?_ ?_ ?_; rotate_left
     · intro w'; go_simp; with_reducible rfl
     rotate_left
     · simp only [Act.put, sa_, s0_, s1_, i64_w, i32_w]; rfl
     exact norm_ (by simp only [putAll, Act.put, sa_, s0_, s1_]) (hCont (.slice Ao102 t376.length co102, gb387) _ ⟨hHeld, (rr_ (Kd.R_mono HO318.out (fun _ hk => ⟨hk.1.1, ⟨hk.1.2.1, ⟨hk.1.2.2.1, ⟨hk.1.2.2.2, hk.2⟩⟩⟩⟩))), (rr_ (Kd.R_mono HO330.out (fun _ hk => ⟨hk.1.1, ⟨hk.1.2.1, ⟨hk.1.2.2.1, ⟨hk.1.2.2.2, hk.2⟩⟩⟩⟩))), (rr_ (Kd.R_mono HO342.out (fun _ hk => ⟨hk.1.1, ⟨hk.1.2.1, ⟨hk.1.2.2.1, ⟨hk.1.2.2.2, hk.2⟩⟩⟩⟩))), (rr_ (Kd.R_mono HO354.out (fun _ hk => ⟨hk.1.1, ⟨hk.1.2.1, ⟨hk.1.2.2.1, ⟨hk.1.2.2.2, hk.2⟩⟩⟩⟩))), (rr_ (Kd.R_mono HO366.out (fun _ hk => ⟨hk.1.1, ⟨hk.1.2.1, ⟨hk.1.2.2.1, ⟨hk.1.2.2.2, hk.2⟩⟩⟩⟩))), (rr_ (Kd.R_mono HO378.out (fun _ hk => ⟨hk.1.1.1.1.2, ⟨hk.1.1.1.2, ⟨hk.1.1.2, ⟨hk.1.2, hk.2⟩⟩⟩⟩))), bq_, bq_, bq_, bq_, bq_, bq_, bq_, bq_, GW387.out, GE387.out, NB314_387.out, NB387_314.out, NB315_387.out, NB387_315.out, NB327_387.out, NB387_327.out, NB339_387.out, NB387_339.out, NB351_387.out, NB387_351.out, NB363_387.out, NB387_363.out, NB375_387.out, NB387_375.out, hq_⟩)
   rintro ⟨v377, gb387⟩ w104 ⟨hS_, h0_, h1_, h2_, h3_, h4_, h5_, h6_, h7_, h8_, h9_, h10_, h11_, h12_, h13_, h14_, h15_, h16_, h17_, h18_, h19_, h20_, h21_, h22_, h23_, h24_, h25_, h26_, h27_, h28_, h29_, h30_⟩
   (try dsimp only at h0_ h1_ h2_ h3_ h4_ h5_ h6_ h7_ h8_ h9_ h10_ h11_ h12_ h13_ h14_ h15_ h16_ h17_ h18_ h19_ h20_ h21_ h22_ h23_ h24_ h25_ h26_ h27_ h28_ h29_ h30_)
   have n0_ := Aside0.mk h0_
   have n1_ := Aside0.mk h1_
   have n2_ := Aside0.mk h2_
   have n3_ := Aside0.mk h3_
   have n4_ := Aside0.mk h4_
   have n5_ := Aside0.mk h5_
   have n6_ := Aside0.mk h6_
   have n7_ := Aside0.mk h7_
   have n8_ := Aside0.mk h8_
   have n9_ := Aside0.mk h9_
   have n10_ := Aside0.mk h10_
   have n11_ := Aside0.mk h11_
   have n12_ := Aside0.mk h12_
   have n13_ := Aside0.mk h13_
   have n14_ := Aside0.mk h14_
   have n15_ := Aside0.mk h15_
   have n16_ := Aside0.mk h16_
   have n17_ := Aside0.mk h17_
   have n18_ := Aside0.mk h18_
   have n19_ := Aside0.mk h19_
   have n20_ := Aside0.mk h20_
   have n21_ := Aside0.mk h21_
   have n22_ := Aside0.mk h22_
   have n23_ := Aside0.mk h23_
   have n24_ := Aside0.mk h24_
   have n25_ := Aside0.mk h25_
   have n26_ := Aside0.mk h26_
   have n27_ := Aside0.mk h27_
   have n28_ := Aside0.mk h28_
   have n29_ := Aside0.mk h29_
   have n30_ := Aside0.mk h30_
   clear HO318
   clear HO330
   clear HO342
   clear HO354
   clear HO366
   clear BK314
   clear BK315
   clear BK327
   clear BK339
   clear BK351
   clear BK363
   clear BK375
   clear HB
   clear h0_ h1_ h2_ h3_ h4_ h5_ h6_ h7_ h8_ h9_ h10_ h11_ h12_ h13_ h14_ h15_ h16_ h17_ h18_ h19_ h20_ h21_ h22_ h23_ h24_ h25_ h26_ h27_ h28_ h29_ h30_
   have HO318 := n0_
   have HO330 := n1_
   have HO342 := n2_
   have HO354 := n3_
   have HO366 := n4_
   have HO378 := n5_
   have BK314 := n6_
   have BK315 := n7_
   have BK327 := n8_
   have BK339 := n9_
   have BK351 := n10_
   have BK363 := n11_
   have BK375 := n12_
   have BK387 := n13_
   have GW387 := n14_
   have GE387 := n15_
   have NB314_387 := n16_
   have NB387_314 := n17_
   have NB315_387 := n18_
   have NB387_315 := n19_
   have NB327_387 := n20_
   have NB387_327 := n21_
   have NB339_387 := n22_
   have NB387_339 := n23_
   have NB351_387 := n24_
   have NB387_351 := n25_
   have NB363_387 := n26_
   have NB387_363 := n27_
   have NB375_387 := n28_
   have NB387_375 := n29_
   have HB := n30_
   clear n0_ n1_ n2_ n3_ n4_ n5_ n6_ n7_ n8_ n9_ n10_ n11_ n12_ n13_ n14_ n15_ n16_ n17_ n18_ n19_ n20_ n21_ n22_ n23_ n24_ n25_ n26_ n27_ n28_ n29_ n30_
   have hHeld : w104.cell? ⟨gb315, 0, none⟩ = some (.int .u8 3) ∧ w104.cell? ⟨gb315, 1, none⟩ = some (.int .i64 1) ∧ w104.cell? ⟨gb315, 2, none⟩ = some (.int .i64 17) ∧ w104.cell? ⟨gb315, 3, none⟩ = some (.int .i64 0) ∧ w104.cell? ⟨gb315, 4, none⟩ = some (.int .i64 0) := hS_
   refine norm_ (a' := ?_) ?_ ?_; rotate_left
   · simp only [putAll, Act.put, sa_, s0_, s1_]; rfl
   refine one_ (i := 7) (N := none) (b_ 9 255) rfl rfl (one_of HT_.out (by kernel_rfl)) (by decide) (fun K hK => ?_)
   have hs105 : w104.cell? ⟨gb387, 0, none⟩ = some (.int .u8 0) := ck_ BK387 0
   have hfs105 := blk_frozen BK387.out 0
   have hns105_0 := NB314_387.out
   have hns105_1 := NB315_387.out
   have hns105_2 := NB327_387.out
   have hns105_3 := NB339_387.out
   have hns105_4 := NB351_387.out
   have hns105_5 := NB363_387.out
   have hns105_6 := NB375_387.out
   have hms105_0 := NB387_314.out
   have hms105_1 := NB387_315.out
   have hms105_2 := NB387_327.out
   have hms105_3 := NB387_339.out
   have hms105_4 := NB387_351.out
   have hms105_5 := NB387_363.out
   have hms105_6 := NB387_375.out
   have hs106 : w104.cell? ⟨gb387, 1, none⟩ = some (.int .i64 0) := ck_ BK387 1
   have hfs106 := blk_frozen BK387.out 1
   have hns106_0 := NB314_387.out
   have hns106_1 := NB315_387.out
   have hns106_2 := NB327_387.out
   have hns106_3 := NB339_387.out
   have hns106_4 := NB351_387.out
   have hns106_5 := NB363_387.out
   have hns106_6 := NB375_387.out
   have hms106_0 := NB387_314.out
   have hms106_1 := NB387_315.out
   have hms106_2 := NB387_327.out
   have hms106_3 := NB387_339.out
   have hms106_4 := NB387_351.out
   have hms106_5 := NB387_363.out
   have hms106_6 := NB387_375.out
   have hs107 : w104.cell? ⟨gb387, 2, none⟩ = some (.int .i64 0) := ck_ BK387 2
   have hfs107 := blk_frozen BK387.out 2
   have hns107_0 := NB314_387.out
   have hns107_1 := NB315_387.out
   have hns107_2 := NB327_387.out
   have hns107_3 := NB339_387.out
   have hns107_4 := NB351_387.out
   have hns107_5 := NB363_387.out
   have hns107_6 := NB375_387.out
   have hms107_0 := NB387_314.out
   have hms107_1 := NB387_315.out
   have hms107_2 := NB387_327.out
   have hms107_3 := NB387_339.out
   have hms107_4 := NB387_351.out
   have hms107_5 := NB387_363.out
   have hms107_6 := NB387_375.out
   have hs108 : w104.cell? ⟨gb387, 3, none⟩ = some (.int .i64 0) := ck_ BK387 3
   have hfs108 := blk_frozen BK387.out 3
   have hns108_0 := NB314_387.out
   have hns108_1 := NB315_387.out
   have hns108_2 := NB327_387.out
   have hns108_3 := NB339_387.out
   have hns108_4 := NB351_387.out
   have hns108_5 := NB363_387.out
   have hns108_6 := NB375_387.out
   have hms108_0 := NB387_314.out
   have hms108_1 := NB387_315.out
   have hms108_2 := NB387_327.out
   have hms108_3 := NB387_339.out
   have hms108_4 := NB387_351.out
   have hms108_5 := NB387_363.out
   have hms108_6 := NB387_375.out
   have hs109 : w104.cell? ⟨gb387, 4, none⟩ = some (.int .i64 0) := ck_ BK387 4
   have hfs109 := blk_frozen BK387.out 4
   have hns109_0 := NB314_387.out
   have hns109_1 := NB315_387.out
   have hns109_2 := NB327_387.out
   have hns109_3 := NB339_387.out
   have hns109_4 := NB351_387.out
   have hns109_5 := NB363_387.out
   have hns109_6 := NB375_387.out
   have hms109_0 := NB387_314.out
   have hms109_1 := NB387_315.out
   have hms109_2 := NB387_327.out
   have hms109_3 := NB387_339.out
   have hms109_4 := NB387_351.out
   have hms109_5 := NB387_363.out
   have hms109_6 := NB387_375.out
   refine skip_ (w1 := ?_) (by rfl) rfl ?_ ?_; rotate_left
   · go_simp; rfl
   refine hK.out _ _ ⟨((cell_far (p := ⟨gb387, _, none⟩) NB315_387.out _).trans (((cell_far (p := ⟨gb387, _, none⟩) NB315_387.out _).trans (((cell_far (p := ⟨gb387, _, none⟩) NB315_387.out _).trans (((cell_far (p := ⟨gb387, _, none⟩) NB315_387.out _).trans (((cell_far (p := ⟨gb387, _, none⟩) NB315_387.out _).trans (hHeld.1)))))))))), ((cell_far (p := ⟨gb387, _, none⟩) NB315_387.out _).trans (((cell_far (p := ⟨gb387, _, none⟩) NB315_387.out _).trans (((cell_far (p := ⟨gb387, _, none⟩) NB315_387.out _).trans (((cell_far (p := ⟨gb387, _, none⟩) NB315_387.out _).trans (((cell_far (p := ⟨gb387, _, none⟩) NB315_387.out _).trans (hHeld.2.1)))))))))), ((cell_far (p := ⟨gb387, _, none⟩) NB315_387.out _).trans (((cell_far (p := ⟨gb387, _, none⟩) NB315_387.out _).trans (((cell_far (p := ⟨gb387, _, none⟩) NB315_387.out _).trans (((cell_far (p := ⟨gb387, _, none⟩) NB315_387.out _).trans (((cell_far (p := ⟨gb387, _, none⟩) NB315_387.out _).trans (hHeld.2.2.1)))))))))), ((cell_far (p := ⟨gb387, _, none⟩) NB315_387.out _).trans (((cell_far (p := ⟨gb387, _, none⟩) NB315_387.out _).trans (((cell_far (p := ⟨gb387, _, none⟩) NB315_387.out _).trans (((cell_far (p := ⟨gb387, _, none⟩) NB315_387.out _).trans (((cell_far (p := ⟨gb387, _, none⟩) NB315_387.out _).trans (hHeld.2.2.2.1)))))))))), ((cell_far (p := ⟨gb387, _, none⟩) NB315_387.out _).trans (((cell_far (p := ⟨gb387, _, none⟩) NB315_387.out _).trans (((cell_far (p := ⟨gb387, _, none⟩) NB315_387.out _).trans (((cell_far (p := ⟨gb387, _, none⟩) NB315_387.out _).trans (((cell_far (p := ⟨gb387, _, none⟩) NB315_387.out _).trans (hHeld.2.2.2.2))))))))))⟩ (fun hHeld => ?_)
   clear hK K
   refine pA_ 8 21 ?_ (b_ 9 511) (any_of HT_.out (by kernel_rfl)) rfl rfl (fun _ _ _ h => h) (by rfl) ?_ ?_ ?_ ?_; rotate_left
   · intro w'; go_simp; with_reducible rfl
   rotate_left
   · simp only [Act.put, sa_, s0_, s1_, i64_w, i32_w]; rfl
   refine done_ (done_of HT_.out (by kernel_rfl)) ?_
   try go_wp2
   have n0_ : Aside0 (Kd.R (Kd.int .i64) 3 (((((w104.setCell ⟨gb387, 0, none⟩ (.int .u8 t381)).setCell ⟨gb387, 1, none⟩ (.int .i64 t382)).setCell ⟨gb387, 2, none⟩ (.int .i64 t383)).setCell ⟨gb387, 3, none⟩ (.int .i64 t384)).setCell ⟨gb387, 4, none⟩ (.int .i64 t385)) w.heap.size (fun k_ => some k_ ≠ (.slice Ao55 t328.length co55 : Value).ownBlock ∧ some k_ ≠ (v341 : Value).ownBlock ∧ some k_ ≠ (v353 : Value).ownBlock ∧ some k_ ≠ (v365 : Value).ownBlock ∧ some k_ ≠ (v377 : Value).ownBlock) v317 t316) := ⟨rr_ (Kd.R_mono (Kd.R_far (p := ⟨gb387, 4, none⟩) (Kd.R_far (p := ⟨gb387, 3, none⟩) (Kd.R_far (p := ⟨gb387, 2, none⟩) (Kd.R_far (p := ⟨gb387, 1, none⟩) (Kd.R_far (p := ⟨gb387, 0, none⟩) (Kd.R_types HO318.out BK387.out (by decide)) (fun _ hk => hk.2) (.int .u8 t381)) (fun _ hk => hk.2) (.int .i64 t382)) (fun _ hk => hk.2) (.int .i64 t383)) (fun _ hk => hk.2) (.int .i64 t384)) (fun _ hk => hk.2) (.int .i64 t385)) (fun _ hk => ⟨hk.1.1, ⟨hk.1.2.1, ⟨hk.1.2.2.1, ⟨hk.1.2.2.2.1, hk.1.2.2.2.2⟩⟩⟩⟩))⟩
   have n1_ : Aside0 (Kd.R (Kd.int .i64) 3 (((((w104.setCell ⟨gb387, 0, none⟩ (.int .u8 t381)).setCell ⟨gb387, 1, none⟩ (.int .i64 t382)).setCell ⟨gb387, 2, none⟩ (.int .i64 t383)).setCell ⟨gb387, 3, none⟩ (.int .i64 t384)).setCell ⟨gb387, 4, none⟩ (.int .i64 t385)) w.heap.size (fun k_ => some k_ ≠ (v317 : Value).ownBlock ∧ some k_ ≠ (v341 : Value).ownBlock ∧ some k_ ≠ (v353 : Value).ownBlock ∧ some k_ ≠ (v365 : Value).ownBlock ∧ some k_ ≠ (v377 : Value).ownBlock) (.slice Ao55 t328.length co55) t328) := ⟨rr_ (Kd.R_mono (Kd.R_far (p := ⟨gb387, 4, none⟩) (Kd.R_far (p := ⟨gb387, 3, none⟩) (Kd.R_far (p := ⟨gb387, 2, none⟩) (Kd.R_far (p := ⟨gb387, 1, none⟩) (Kd.R_far (p := ⟨gb387, 0, none⟩) (Kd.R_types HO330.out BK387.out (by decide)) (fun _ hk => hk.2) (.int .u8 t381)) (fun _ hk => hk.2) (.int .i64 t382)) (fun _ hk => hk.2) (.int .i64 t383)) (fun _ hk => hk.2) (.int .i64 t384)) (fun _ hk => hk.2) (.int .i64 t385)) (fun _ hk => ⟨hk.1.1, ⟨hk.1.2.1, ⟨hk.1.2.2.1, ⟨hk.1.2.2.2.1, hk.1.2.2.2.2⟩⟩⟩⟩))⟩
   have n2_ : Aside0 (Kd.R (Kd.int .i64) 3 (((((w104.setCell ⟨gb387, 0, none⟩ (.int .u8 t381)).setCell ⟨gb387, 1, none⟩ (.int .i64 t382)).setCell ⟨gb387, 2, none⟩ (.int .i64 t383)).setCell ⟨gb387, 3, none⟩ (.int .i64 t384)).setCell ⟨gb387, 4, none⟩ (.int .i64 t385)) w.heap.size (fun k_ => some k_ ≠ (v317 : Value).ownBlock ∧ some k_ ≠ (.slice Ao55 t328.length co55 : Value).ownBlock ∧ some k_ ≠ (v353 : Value).ownBlock ∧ some k_ ≠ (v365 : Value).ownBlock ∧ some k_ ≠ (v377 : Value).ownBlock) v341 t340) := ⟨rr_ (Kd.R_mono (Kd.R_far (p := ⟨gb387, 4, none⟩) (Kd.R_far (p := ⟨gb387, 3, none⟩) (Kd.R_far (p := ⟨gb387, 2, none⟩) (Kd.R_far (p := ⟨gb387, 1, none⟩) (Kd.R_far (p := ⟨gb387, 0, none⟩) (Kd.R_types HO342.out BK387.out (by decide)) (fun _ hk => hk.2) (.int .u8 t381)) (fun _ hk => hk.2) (.int .i64 t382)) (fun _ hk => hk.2) (.int .i64 t383)) (fun _ hk => hk.2) (.int .i64 t384)) (fun _ hk => hk.2) (.int .i64 t385)) (fun _ hk => ⟨hk.1.1, ⟨hk.1.2.1, ⟨hk.1.2.2.1, ⟨hk.1.2.2.2.1, hk.1.2.2.2.2⟩⟩⟩⟩))⟩
   have n3_ : Aside0 (Kd.R (Kd.int .i64) 3 (((((w104.setCell ⟨gb387, 0, none⟩ (.int .u8 t381)).setCell ⟨gb387, 1, none⟩ (.int .i64 t382)).setCell ⟨gb387, 2, none⟩ (.int .i64 t383)).setCell ⟨gb387, 3, none⟩ (.int .i64 t384)).setCell ⟨gb387, 4, none⟩ (.int .i64 t385)) w.heap.size (fun k_ => some k_ ≠ (v317 : Value).ownBlock ∧ some k_ ≠ (.slice Ao55 t328.length co55 : Value).ownBlock ∧ some k_ ≠ (v341 : Value).ownBlock ∧ some k_ ≠ (v365 : Value).ownBlock ∧ some k_ ≠ (v377 : Value).ownBlock) v353 t352) := ⟨rr_ (Kd.R_mono (Kd.R_far (p := ⟨gb387, 4, none⟩) (Kd.R_far (p := ⟨gb387, 3, none⟩) (Kd.R_far (p := ⟨gb387, 2, none⟩) (Kd.R_far (p := ⟨gb387, 1, none⟩) (Kd.R_far (p := ⟨gb387, 0, none⟩) (Kd.R_types HO354.out BK387.out (by decide)) (fun _ hk => hk.2) (.int .u8 t381)) (fun _ hk => hk.2) (.int .i64 t382)) (fun _ hk => hk.2) (.int .i64 t383)) (fun _ hk => hk.2) (.int .i64 t384)) (fun _ hk => hk.2) (.int .i64 t385)) (fun _ hk => ⟨hk.1.1, ⟨hk.1.2.1, ⟨hk.1.2.2.1, ⟨hk.1.2.2.2.1, hk.1.2.2.2.2⟩⟩⟩⟩))⟩
   have n4_ : Aside0 (Kd.R (Kd.int .i64) 3 (((((w104.setCell ⟨gb387, 0, none⟩ (.int .u8 t381)).setCell ⟨gb387, 1, none⟩ (.int .i64 t382)).setCell ⟨gb387, 2, none⟩ (.int .i64 t383)).setCell ⟨gb387, 3, none⟩ (.int .i64 t384)).setCell ⟨gb387, 4, none⟩ (.int .i64 t385)) w.heap.size (fun k_ => some k_ ≠ (v317 : Value).ownBlock ∧ some k_ ≠ (.slice Ao55 t328.length co55 : Value).ownBlock ∧ some k_ ≠ (v341 : Value).ownBlock ∧ some k_ ≠ (v353 : Value).ownBlock ∧ some k_ ≠ (v377 : Value).ownBlock) v365 t364) := ⟨rr_ (Kd.R_mono (Kd.R_far (p := ⟨gb387, 4, none⟩) (Kd.R_far (p := ⟨gb387, 3, none⟩) (Kd.R_far (p := ⟨gb387, 2, none⟩) (Kd.R_far (p := ⟨gb387, 1, none⟩) (Kd.R_far (p := ⟨gb387, 0, none⟩) (Kd.R_types HO366.out BK387.out (by decide)) (fun _ hk => hk.2) (.int .u8 t381)) (fun _ hk => hk.2) (.int .i64 t382)) (fun _ hk => hk.2) (.int .i64 t383)) (fun _ hk => hk.2) (.int .i64 t384)) (fun _ hk => hk.2) (.int .i64 t385)) (fun _ hk => ⟨hk.1.1, ⟨hk.1.2.1, ⟨hk.1.2.2.1, ⟨hk.1.2.2.2.1, hk.1.2.2.2.2⟩⟩⟩⟩))⟩
   have n5_ : Aside0 (Kd.R (Kd.int .i64) 3 (((((w104.setCell ⟨gb387, 0, none⟩ (.int .u8 t381)).setCell ⟨gb387, 1, none⟩ (.int .i64 t382)).setCell ⟨gb387, 2, none⟩ (.int .i64 t383)).setCell ⟨gb387, 3, none⟩ (.int .i64 t384)).setCell ⟨gb387, 4, none⟩ (.int .i64 t385)) w.heap.size (fun k_ => some k_ ≠ (v317 : Value).ownBlock ∧ some k_ ≠ (.slice Ao55 t328.length co55 : Value).ownBlock ∧ some k_ ≠ (v341 : Value).ownBlock ∧ some k_ ≠ (v353 : Value).ownBlock ∧ some k_ ≠ (v365 : Value).ownBlock) v377 t376) := ⟨rr_ (Kd.R_mono (Kd.R_far (p := ⟨gb387, 4, none⟩) (Kd.R_far (p := ⟨gb387, 3, none⟩) (Kd.R_far (p := ⟨gb387, 2, none⟩) (Kd.R_far (p := ⟨gb387, 1, none⟩) (Kd.R_far (p := ⟨gb387, 0, none⟩) (Kd.R_types HO378.out BK387.out (by decide)) (fun _ hk => hk.2) (.int .u8 t381)) (fun _ hk => hk.2) (.int .i64 t382)) (fun _ hk => hk.2) (.int .i64 t383)) (fun _ hk => hk.2) (.int .i64 t384)) (fun _ hk => hk.2) (.int .i64 t385)) (fun _ hk => ⟨hk.1.1, ⟨hk.1.2.1, ⟨hk.1.2.2.1, ⟨hk.1.2.2.2.1, hk.1.2.2.2.2⟩⟩⟩⟩))⟩
   have n6_ : Aside0 ((((((w104.setCell ⟨gb387, 0, none⟩ (.int .u8 t381)).setCell ⟨gb387, 1, none⟩ (.int .i64 t382)).setCell ⟨gb387, 2, none⟩ (.int .i64 t383)).setCell ⟨gb387, 3, none⟩ (.int .i64 t384)).setCell ⟨gb387, 4, none⟩ (.int .i64 t385)).heap[gb314]? = some (.cells #[.int .u8 2, .int .i64 1, .int .i64 30, .int .i64 4, .int .i64 0] 31 (0, 0))) := ⟨bf_⟩
   have n7_ : Aside0 ((((((w104.setCell ⟨gb387, 0, none⟩ (.int .u8 t381)).setCell ⟨gb387, 1, none⟩ (.int .i64 t382)).setCell ⟨gb387, 2, none⟩ (.int .i64 t383)).setCell ⟨gb387, 3, none⟩ (.int .i64 t384)).setCell ⟨gb387, 4, none⟩ (.int .i64 t385)).heap[gb315]? = some (.cells #[.int .u8 3, .int .i64 1, .int .i64 17, .int .i64 0, .int .i64 0] 31 (0, 0))) := ⟨bf_⟩
   have n8_ : Aside0 ((((((w104.setCell ⟨gb387, 0, none⟩ (.int .u8 t381)).setCell ⟨gb387, 1, none⟩ (.int .i64 t382)).setCell ⟨gb387, 2, none⟩ (.int .i64 t383)).setCell ⟨gb387, 3, none⟩ (.int .i64 t384)).setCell ⟨gb387, 4, none⟩ (.int .i64 t385)).heap[gb327]? = some (.cells #[.int .u8 t321, .int .i64 t322, .int .i64 t323, .int .i64 t324, .int .i64 t325] 31 (0, 0))) := ⟨bf_⟩
   have n9_ : Aside0 ((((((w104.setCell ⟨gb387, 0, none⟩ (.int .u8 t381)).setCell ⟨gb387, 1, none⟩ (.int .i64 t382)).setCell ⟨gb387, 2, none⟩ (.int .i64 t383)).setCell ⟨gb387, 3, none⟩ (.int .i64 t384)).setCell ⟨gb387, 4, none⟩ (.int .i64 t385)).heap[gb339]? = some (.cells #[.int .u8 t333, .int .i64 t334, .int .i64 t335, .int .i64 t336, .int .i64 t337] 31 (0, 0))) := ⟨bf_⟩
   have n10_ : Aside0 ((((((w104.setCell ⟨gb387, 0, none⟩ (.int .u8 t381)).setCell ⟨gb387, 1, none⟩ (.int .i64 t382)).setCell ⟨gb387, 2, none⟩ (.int .i64 t383)).setCell ⟨gb387, 3, none⟩ (.int .i64 t384)).setCell ⟨gb387, 4, none⟩ (.int .i64 t385)).heap[gb351]? = some (.cells #[.int .u8 t345, .int .i64 t346, .int .i64 t347, .int .i64 t348, .int .i64 t349] 31 (0, 0))) := ⟨bf_⟩
   have n11_ : Aside0 ((((((w104.setCell ⟨gb387, 0, none⟩ (.int .u8 t381)).setCell ⟨gb387, 1, none⟩ (.int .i64 t382)).setCell ⟨gb387, 2, none⟩ (.int .i64 t383)).setCell ⟨gb387, 3, none⟩ (.int .i64 t384)).setCell ⟨gb387, 4, none⟩ (.int .i64 t385)).heap[gb363]? = some (.cells #[.int .u8 t357, .int .i64 t358, .int .i64 t359, .int .i64 t360, .int .i64 t361] 31 (0, 0))) := ⟨bf_⟩
   have n12_ : Aside0 ((((((w104.setCell ⟨gb387, 0, none⟩ (.int .u8 t381)).setCell ⟨gb387, 1, none⟩ (.int .i64 t382)).setCell ⟨gb387, 2, none⟩ (.int .i64 t383)).setCell ⟨gb387, 3, none⟩ (.int .i64 t384)).setCell ⟨gb387, 4, none⟩ (.int .i64 t385)).heap[gb375]? = some (.cells #[.int .u8 t369, .int .i64 t370, .int .i64 t371, .int .i64 t372, .int .i64 t373] 31 (0, 0))) := ⟨bf_⟩
   have n13_ : Aside0 ((((((w104.setCell ⟨gb387, 0, none⟩ (.int .u8 t381)).setCell ⟨gb387, 1, none⟩ (.int .i64 t382)).setCell ⟨gb387, 2, none⟩ (.int .i64 t383)).setCell ⟨gb387, 3, none⟩ (.int .i64 t384)).setCell ⟨gb387, 4, none⟩ (.int .i64 t385)).heap[gb387]? = some (.cells #[.int .u8 t381, .int .i64 t382, .int .i64 t383, .int .i64 t384, .int .i64 t385] 31 (0, 0))) := ⟨by (with_reducible repeat (first | refine blk_drewN ?_ _ | refine blk_drew ?_ | refine blk_alloc ?_ _)); refine blk_put (cs := #[.int .u8 t381, .int .i64 t382, .int .i64 t383, .int .i64 t384, .int .i64 0]) ?_ 4 _ rfl; (with_reducible repeat (first | refine blk_drewN ?_ _ | refine blk_drew ?_ | refine blk_alloc ?_ _)); refine blk_put (cs := #[.int .u8 t381, .int .i64 t382, .int .i64 t383, .int .i64 0, .int .i64 0]) ?_ 3 _ rfl; (with_reducible repeat (first | refine blk_drewN ?_ _ | refine blk_drew ?_ | refine blk_alloc ?_ _)); refine blk_put (cs := #[.int .u8 t381, .int .i64 t382, .int .i64 0, .int .i64 0, .int .i64 0]) ?_ 2 _ rfl; (with_reducible repeat (first | refine blk_drewN ?_ _ | refine blk_drew ?_ | refine blk_alloc ?_ _)); refine blk_put (cs := #[.int .u8 t381, .int .i64 0, .int .i64 0, .int .i64 0, .int .i64 0]) ?_ 1 _ rfl; (with_reducible repeat (first | refine blk_drewN ?_ _ | refine blk_drew ?_ | refine blk_alloc ?_ _)); refine blk_put (cs := #[.int .u8 0, .int .i64 0, .int .i64 0, .int .i64 0, .int .i64 0]) ?_ 0 _ rfl; (with_reducible repeat (first | refine blk_drewN ?_ _ | refine blk_drew ?_ | refine blk_alloc ?_ _)); exact BK387.out⟩
   have n14_ : Aside0 (Below w.heap.size w (((((w104.setCell ⟨gb387, 0, none⟩ (.int .u8 t381)).setCell ⟨gb387, 1, none⟩ (.int .i64 t382)).setCell ⟨gb387, 2, none⟩ (.int .i64 t383)).setCell ⟨gb387, 3, none⟩ (.int .i64 t384)).setCell ⟨gb387, 4, none⟩ (.int .i64 t385))) := ⟨hq_⟩
   (try clear HO318)
   (try clear HO330)
   (try clear HO342)
   (try clear HO354)
   (try clear HO366)
   (try clear HO378)
   (try clear BK314)
   (try clear BK315)
   (try clear BK327)
   (try clear BK339)
   (try clear BK351)
   (try clear BK363)
   (try clear BK375)
   (try clear BK387)
   (try clear HB)
   generalize (((((w104.setCell ⟨gb387, 0, none⟩ (.int .u8 t381)).setCell ⟨gb387, 1, none⟩ (.int .i64 t382)).setCell ⟨gb387, 2, none⟩ (.int .i64 t383)).setCell ⟨gb387, 3, none⟩ (.int .i64 t384)).setCell ⟨gb387, 4, none⟩ (.int .i64 t385)) = w110 at n0_ n1_ n2_ n3_ n4_ n5_ n6_ n7_ n8_ n9_ n10_ n11_ n12_ n13_ n14_ ⊢
   have HO318 := n0_
   have HO330 := n1_
   have HO342 := n2_
   have HO354 := n3_
   have HO366 := n4_
   have HO378 := n5_
   have BK314 := n6_
   have BK315 := n7_
   have BK327 := n8_
   have BK339 := n9_
   have BK351 := n10_
   have BK363 := n11_
   have BK375 := n12_
   have BK387 := n13_
   have HB := n14_
   clear n0_ n1_ n2_ n3_ n4_ n5_ n6_ n7_ n8_ n9_ n10_ n11_ n12_ n13_ n14_
   replace HO318 := Aside0.mk (Kd.R_drew HO318.out)
   replace HO330 := Aside0.mk (Kd.R_drew HO330.out)
   replace HO342 := Aside0.mk (Kd.R_drew HO342.out)
   replace HO354 := Aside0.mk (Kd.R_drew HO354.out)
   replace HO366 := Aside0.mk (Kd.R_drew HO366.out)
   replace HO378 := Aside0.mk (Kd.R_drew HO378.out)
   replace BK314 := Aside0.mk (blk_drew BK314.out)
   replace BK315 := Aside0.mk (blk_drew BK315.out)
   replace BK327 := Aside0.mk (blk_drew BK327.out)
   replace BK339 := Aside0.mk (blk_drew BK339.out)
   replace BK351 := Aside0.mk (blk_drew BK351.out)
   replace BK363 := Aside0.mk (blk_drew BK363.out)
   replace BK375 := Aside0.mk (blk_drew BK375.out)
   replace BK387 := Aside0.mk (blk_drew BK387.out)
   replace HB := Aside0.mk (below_drew1 HB.out)
   refine start_ (n := 9) (S := fun w' => w'.cell? ⟨gb315, 0, none⟩ = some (.int .u8 3) ∧ w'.cell? ⟨gb315, 1, none⟩ = some (.int .i64 1) ∧ w'.cell? ⟨gb315, 2, none⟩ = some (.int .i64 17) ∧ w'.cell? ⟨gb315, 3, none⟩ = some (.int .i64 0) ∧ w'.cell? ⟨gb315, 4, none⟩ = some (.int .i64 0)) (ds := []) (b_ 9 0) (by kernel_rfl) rfl rfl ⟨ck_ BK315 0, ck_ BK315 1, ck_ BK315 2, ck_ BK315 3, ck_ BK315 4⟩ (fun hHeld => ?_); refine with_tabW millhandlaw24_TaskNames.tab13 millhandlaw24_TaskNames.bits13 (fun HT_ HW_ => ?_)
   generalize w110.drew = w111 at HO318 HO330 HO342 HO354 HO366 HO378 BK314 BK315 BK327 BK339 BK351 BK363 BK375 BK387 HB hHeld ⊢
   refine tA_ 1 106 ?_ (b_ 9 2) (take_ofW HT_.out HW_.out (by kernel_rfl)) rfl rfl (fun _ _ _ h => h) (by rfl) ?_ hHeld ?_ ?_ ?_; rotate_left
   · rintro w' ⟨s0, s1, s2, s3, s4⟩; go_simp; with_reducible rfl
   rotate_left
   · simp only [Act.put, sa_, s0_, s1_, i64_w, i32_w]; rfl
   refine join_ (σ := Value × Nat) 2 (b_ 9 127) (fun s_ => [(105, .agg #[s_.1, .int .i64 t391, .int .i64 t392]), (107, .tuple #[.agg #[.int .u8 t393, .int .i64 t394, .int .i64 t395, .int .i64 t396, .int .i64 t397], .int .i64 t398]), (22, .pointer (some ⟨s_.2, 0, none⟩)), (104, .tuple #[.agg #[.int .u8 t393, .int .i64 t394, .int .i64 t395, .int .i64 t396, .int .i64 t397], .int .i64 t398]), (108, .agg #[.int .u8 t393, .int .i64 t394, .int .i64 t395, .int .i64 t396, .int .i64 t397]), (109, .int .i64 t398)]) (fun s_ w' => (w'.cell? ⟨gb315, 0, none⟩ = some (.int .u8 3) ∧ w'.cell? ⟨gb315, 1, none⟩ = some (.int .i64 1) ∧ w'.cell? ⟨gb315, 2, none⟩ = some (.int .i64 17) ∧ w'.cell? ⟨gb315, 3, none⟩ = some (.int .i64 0) ∧ w'.cell? ⟨gb315, 4, none⟩ = some (.int .i64 0)) ∧ (Kd.R (Kd.int .i64) 3 w' w.heap.size (fun k_ => some k_ ≠ (.slice Ao55 t328.length co55 : Value).ownBlock ∧ some k_ ≠ (v341 : Value).ownBlock ∧ some k_ ≠ (v353 : Value).ownBlock ∧ some k_ ≠ (v365 : Value).ownBlock ∧ some k_ ≠ (v377 : Value).ownBlock ∧ some k_ ≠ (s_.1 : Value).ownBlock) v317 t316) ∧ (Kd.R (Kd.int .i64) 3 w' w.heap.size (fun k_ => some k_ ≠ (v317 : Value).ownBlock ∧ some k_ ≠ (v341 : Value).ownBlock ∧ some k_ ≠ (v353 : Value).ownBlock ∧ some k_ ≠ (v365 : Value).ownBlock ∧ some k_ ≠ (v377 : Value).ownBlock ∧ some k_ ≠ (s_.1 : Value).ownBlock) (.slice Ao55 t328.length co55) t328) ∧ (Kd.R (Kd.int .i64) 3 w' w.heap.size (fun k_ => some k_ ≠ (v317 : Value).ownBlock ∧ some k_ ≠ (.slice Ao55 t328.length co55 : Value).ownBlock ∧ some k_ ≠ (v353 : Value).ownBlock ∧ some k_ ≠ (v365 : Value).ownBlock ∧ some k_ ≠ (v377 : Value).ownBlock ∧ some k_ ≠ (s_.1 : Value).ownBlock) v341 t340) ∧ (Kd.R (Kd.int .i64) 3 w' w.heap.size (fun k_ => some k_ ≠ (v317 : Value).ownBlock ∧ some k_ ≠ (.slice Ao55 t328.length co55 : Value).ownBlock ∧ some k_ ≠ (v341 : Value).ownBlock ∧ some k_ ≠ (v365 : Value).ownBlock ∧ some k_ ≠ (v377 : Value).ownBlock ∧ some k_ ≠ (s_.1 : Value).ownBlock) v353 t352) ∧ (Kd.R (Kd.int .i64) 3 w' w.heap.size (fun k_ => some k_ ≠ (v317 : Value).ownBlock ∧ some k_ ≠ (.slice Ao55 t328.length co55 : Value).ownBlock ∧ some k_ ≠ (v341 : Value).ownBlock ∧ some k_ ≠ (v353 : Value).ownBlock ∧ some k_ ≠ (v377 : Value).ownBlock ∧ some k_ ≠ (s_.1 : Value).ownBlock) v365 t364) ∧ (Kd.R (Kd.int .i64) 3 w' w.heap.size (fun k_ => some k_ ≠ (v317 : Value).ownBlock ∧ some k_ ≠ (.slice Ao55 t328.length co55 : Value).ownBlock ∧ some k_ ≠ (v341 : Value).ownBlock ∧ some k_ ≠ (v353 : Value).ownBlock ∧ some k_ ≠ (v365 : Value).ownBlock ∧ some k_ ≠ (s_.1 : Value).ownBlock) v377 t376) ∧ (Kd.R (Kd.int .i64) 3 w' w.heap.size (fun k_ => some k_ ≠ (v317 : Value).ownBlock ∧ some k_ ≠ (.slice Ao55 t328.length co55 : Value).ownBlock ∧ some k_ ≠ (v341 : Value).ownBlock ∧ some k_ ≠ (v353 : Value).ownBlock ∧ some k_ ≠ (v365 : Value).ownBlock ∧ some k_ ≠ (v377 : Value).ownBlock) s_.1 t388) ∧ (w'.heap[gb314]? = some (.cells #[.int .u8 2, .int .i64 1, .int .i64 30, .int .i64 4, .int .i64 0] 31 (0, 0))) ∧ (w'.heap[gb315]? = some (.cells #[.int .u8 3, .int .i64 1, .int .i64 17, .int .i64 0, .int .i64 0] 31 (0, 0))) ∧ (w'.heap[gb327]? = some (.cells #[.int .u8 t321, .int .i64 t322, .int .i64 t323, .int .i64 t324, .int .i64 t325] 31 (0, 0))) ∧ (w'.heap[gb339]? = some (.cells #[.int .u8 t333, .int .i64 t334, .int .i64 t335, .int .i64 t336, .int .i64 t337] 31 (0, 0))) ∧ (w'.heap[gb351]? = some (.cells #[.int .u8 t345, .int .i64 t346, .int .i64 t347, .int .i64 t348, .int .i64 t349] 31 (0, 0))) ∧ (w'.heap[gb363]? = some (.cells #[.int .u8 t357, .int .i64 t358, .int .i64 t359, .int .i64 t360, .int .i64 t361] 31 (0, 0))) ∧ (w'.heap[gb375]? = some (.cells #[.int .u8 t369, .int .i64 t370, .int .i64 t371, .int .i64 t372, .int .i64 t373] 31 (0, 0))) ∧ (w'.heap[gb387]? = some (.cells #[.int .u8 t381, .int .i64 t382, .int .i64 t383, .int .i64 t384, .int .i64 t385] 31 (0, 0))) ∧ (w'.heap[s_.2]? = some (.cells #[.int .u8 0, .int .i64 0, .int .i64 0, .int .i64 0, .int .i64 0] 31 (0, 0))) ∧ (w.heap.size ≤ s_.2) ∧ (w.heap.size ≤ s_.2) ∧ (gb314 ≠ s_.2) ∧ (s_.2 ≠ gb314) ∧ (gb315 ≠ s_.2) ∧ (s_.2 ≠ gb315) ∧ (gb327 ≠ s_.2) ∧ (s_.2 ≠ gb327) ∧ (gb339 ≠ s_.2) ∧ (s_.2 ≠ gb339) ∧ (gb351 ≠ s_.2) ∧ (s_.2 ≠ gb351) ∧ (gb363 ≠ s_.2) ∧ (s_.2 ≠ gb363) ∧ (gb375 ≠ s_.2) ∧ (s_.2 ≠ gb375) ∧ (gb387 ≠ s_.2) ∧ (s_.2 ≠ gb387) ∧ (Below w.heap.size w w')) ?_ ?_
   rotate_left
   ·
    intro hCont
    refine two_ (i := 0) (j := 6) (Ni := some 105) (Nj := some 22) (b_ 9 3) (b_ 9 66) rfl rfl rfl rfl (two_of HT_.out (by kernel_rfl)) (by decide) (by decide) (fun K hK => ?_) (fun K hK => ?_)
    ·
     skip
     refine goes_ Try.func11 (by kernel_rfl) rfl #[] (by rfl) rfl rfl (by (try simp only [List.map_toArray, List.map_cons, List.map_nil]); first | done | rfl | (simp only [List.length_drop, List.length_take]; rfl)) ?_
     with_reducible refine (millhandlaw24_node.calls  t388 t391 t392 _ A34.out).mono ?_
     rintro e w112 ⟨v389, rfl, ho0, hb⟩
     refine ⟨_, rfl, ?_⟩
     have HO390 := Aside0.mk (Kd.R_lower (Kd.R_new' (Kd.R_new' (Kd.R_new' (Kd.R_new' (Kd.R_new' (Kd.R_new' ho0 (Kd.R_lt (rr_ HO318.out))) (Kd.R_lt (rr_ HO330.out))) (Kd.R_lt (rr_ HO342.out))) (Kd.R_lt (rr_ HO354.out))) (Kd.R_lt (rr_ HO366.out))) (Kd.R_lt (rr_ HO378.out))) (below_size (hB_ HB.out)))
     replace HO318 := Aside0.mk (Kd.R_elder' (rr_ HO318.out) (Kd.R_base ho0) hb)
     replace HO330 := Aside0.mk (Kd.R_elder' (rr_ HO330.out) (Kd.R_base ho0) hb)
     replace HO342 := Aside0.mk (Kd.R_elder' (rr_ HO342.out) (Kd.R_base ho0) hb)
     replace HO354 := Aside0.mk (Kd.R_elder' (rr_ HO354.out) (Kd.R_base ho0) hb)
     replace HO366 := Aside0.mk (Kd.R_elder' (rr_ HO366.out) (Kd.R_base ho0) hb)
     replace HO378 := Aside0.mk (Kd.R_elder' (rr_ HO378.out) (Kd.R_base ho0) hb)
     replace BK314 := bs_ BK314 hb
     replace BK315 := bs_ BK315 hb
     replace BK327 := bs_ BK327 hb
     replace BK339 := bs_ BK339 hb
     replace BK351 := bs_ BK351 hb
     replace BK363 := bs_ BK363 hb
     replace BK375 := bs_ BK375 hb
     replace BK387 := bs_ BK387 hb
     replace HB := Aside0.mk (below_step (hB_ HB.out) hb)
     (try clear hb)
     (try clear hb2)
     (try clear hk)
     (try clear hi)
     (try clear ho0)
     obtain ⟨Ao113, co113, eo113⟩ := Kd.R_slice HO390.out
     (first | subst eo113 | (injection eo113 with f1_ f2_ f3_; have f4_ := f1_.symm; have f5_ := f3_.symm; clear f1_ f2_ f3_; subst f4_; subst f5_))
     refine hK.out _ _ ⟨ck_ BK315 0, ck_ BK315 1, ck_ BK315 2, ck_ BK315 3, ck_ BK315 4⟩ (fun hHeld => ?_)
     clear hK K
     refine norm_ (a' := ?_) ?_ ?_
     rotate_left
     ·
      show Act.put _ (some 105) _ = _
      simp only [Act.put, sa_, s0_, s1_, i64_w, i32_w]
      rfl
     refine two_ (i := 2) (j := 6) (Ni := some 107) (Nj := some 22) (b_ 9 7) (b_ 9 67) rfl rfl rfl rfl (two_of HT_.out (by kernel_rfl)) (by decide) (by decide) (fun K hK => ?_) (fun K hK => ?_)
     ·
      skip
      refine goes_ Try.func15 (by kernel_rfl) rfl #[.agg #[.slice Ao113 t388.length co113, .int .i64 t391, .int .i64 t392], .agg #[.int .u8 3, .int .i64 1, .int .i64 17, .int .i64 0, .int .i64 0], .int .i64 8, .int .i64 17] (by rfl) rfl rfl (by (try simp only [List.map_toArray, List.map_cons, List.map_nil]); first | done | rfl | (simp only [List.length_drop, List.length_take]; rfl)) ?_
      with_reducible refine (task_Wake.calls kj6 _ _ t388 t391 t392 3 1 17 0 0 8 17 t393 t394 t395 t396 t397 t398 _ ?side1 ?side2 A35.out).mono ?_
      (case side1 => repeat (first | exact (Kd.R_reads' HO390.out).2.2 | (with_reducible refine Kd.C_alloc ?_ _) | (with_reducible refine Kd.C_drewN ?_ _) | (with_reducible refine Kd.C_drew ?_)))
      (case side2 => exact (Kd.R_reads' HO390.out).2.1)
      rintro e w114 ⟨rfl, hb⟩
      refine ⟨_, rfl, ?_⟩
      replace HO318 := Aside0.mk (Kd.R_below (rr_ HO318.out) hb)
      replace HO330 := Aside0.mk (Kd.R_below (rr_ HO330.out) hb)
      replace HO342 := Aside0.mk (Kd.R_below (rr_ HO342.out) hb)
      replace HO354 := Aside0.mk (Kd.R_below (rr_ HO354.out) hb)
      replace HO366 := Aside0.mk (Kd.R_below (rr_ HO366.out) hb)
      replace HO378 := Aside0.mk (Kd.R_below (rr_ HO378.out) hb)
      replace HO390 := Aside0.mk (Kd.R_below (rr_ HO390.out) hb)
      replace BK314 := bs_ BK314 hb
      replace BK315 := bs_ BK315 hb
      replace BK327 := bs_ BK327 hb
      replace BK339 := bs_ BK339 hb
      replace BK351 := bs_ BK351 hb
      replace BK363 := bs_ BK363 hb
      replace BK375 := bs_ BK375 hb
      replace BK387 := bs_ BK387 hb
      replace HB := Aside0.mk (below_step (hB_ HB.out) hb)
      (try clear hb)
      (try clear hb2)
      (try clear hk)
      (try clear hi)
      refine hK.out _ _ ⟨ck_ BK315 0, ck_ BK315 1, ck_ BK315 2, ck_ BK315 3, ck_ BK315 4⟩ (fun hHeld => ?_)
      clear hK K
      refine norm_ (a' := ?_) ?_ ?_
      rotate_left
      ·
       show Act.put _ (some 107) _ = _
       simp only [Act.put, sa_, s0_, s1_, i64_w, i32_w]
       rfl
      refine pA_ 3 104 ?_ (b_ 9 15) (any_of HT_.out (by kernel_rfl)) rfl rfl (fun _ _ _ h => h) (by rfl) ?_ ?_ ?_ ?_; rotate_left
      · intro w'; go_simp; with_reducible rfl
      rotate_left
      · simp only [Act.put, sa_, s0_, s1_, i64_w, i32_w]; rfl
      refine pA_ 4 108 ?_ (b_ 9 31) (any_of HT_.out (by kernel_rfl)) rfl rfl (fun _ _ _ h => h) (by rfl) ?_ ?_ ?_ ?_; rotate_left
      · intro w'; go_simp; with_reducible rfl
      rotate_left
      · simp only [Act.put, sa_, s0_, s1_, i64_w, i32_w]; rfl
      refine pA_ 5 109 ?_ (b_ 9 63) (any_of HT_.out (by kernel_rfl)) rfl rfl (fun _ _ _ h => h) (by rfl) ?_ ?_ ?_ ?_; rotate_left
      · intro w'; go_simp; with_reducible rfl
      rotate_left
      · simp only [Act.put, sa_, s0_, s1_, i64_w, i32_w]; rfl
      refine one_ (i := 6) (N := some 22) (b_ 9 127) rfl rfl (one_of HT_.out (by kernel_rfl)) (by decide) (fun K hK => ?_)
      refine box_step ?hg (N := 22) ?hd (cs := #[.int .u8 0, .int .i64 0, .int .i64 0, .int .i64 0, .int .i64 0]) (t := 31) ?hr ?_; (case hd => rfl); (case hg => rfl); (case hr => first | (go_simp; done) | (go_simp; rfl))
      intro gb399 hg w115 hbox hb
      replace HO318 := Aside0.mk (Kd.R_below (rr_ HO318.out) hb)
      replace HO330 := Aside0.mk (Kd.R_below (rr_ HO330.out) hb)
      replace HO342 := Aside0.mk (Kd.R_below (rr_ HO342.out) hb)
      replace HO354 := Aside0.mk (Kd.R_below (rr_ HO354.out) hb)
      replace HO366 := Aside0.mk (Kd.R_below (rr_ HO366.out) hb)
      replace HO378 := Aside0.mk (Kd.R_below (rr_ HO378.out) hb)
      replace HO390 := Aside0.mk (Kd.R_below (rr_ HO390.out) hb)
      have BK399 := Aside0.mk (hbox)
      have GW399 := bz_ (hB_ HB.out) hg
      have GE399 := bz_ (hB_ HB.out) hg
      replace HB := Aside0.mk (below_step (hB_ HB.out) hb)
      have NB314_399 := bn_ BK314 hg
      have NB399_314 := bm_ BK314 hg
      replace BK314 := bs_ BK314 hb
      have NB315_399 := bn_ BK315 hg
      have NB399_315 := bm_ BK315 hg
      replace BK315 := bs_ BK315 hb
      have NB327_399 := bn_ BK327 hg
      have NB399_327 := bm_ BK327 hg
      replace BK327 := bs_ BK327 hb
      have NB339_399 := bn_ BK339 hg
      have NB399_339 := bm_ BK339 hg
      replace BK339 := bs_ BK339 hb
      have NB351_399 := bn_ BK351 hg
      have NB399_351 := bm_ BK351 hg
      replace BK351 := bs_ BK351 hb
      have NB363_399 := bn_ BK363 hg
      have NB399_363 := bm_ BK363 hg
      replace BK363 := bs_ BK363 hb
      have NB375_399 := bn_ BK375 hg
      have NB399_375 := bm_ BK375 hg
      replace BK375 := bs_ BK375 hb
      have NB387_399 := bn_ BK387 hg
      have NB399_387 := bm_ BK387 hg
      replace BK387 := bs_ BK387 hb
      clear hb hbox hg
      refine hK.out _ _ ⟨ck_ BK315 0, ck_ BK315 1, ck_ BK315 2, ck_ BK315 3, ck_ BK315 4⟩ (fun hHeld => ?_)
      clear hK K
      refine norm_ (a' := ?_) ?_ ?_
      rotate_left
      ·
       show Act.put _ (some 22) _ = _
       simp only [Act.put, sa_, s0_, s1_, i64_w, i32_w]
       rfl
      exact norm_ (by simp only [putAll, Act.put, sa_, s0_, s1_]) (hCont (.slice Ao113 t388.length co113, gb399) _ ⟨hHeld, (rr_ (Kd.R_mono HO318.out (fun _ hk => ⟨hk.1.1, ⟨hk.1.2.1, ⟨hk.1.2.2.1, ⟨hk.1.2.2.2.1, ⟨hk.1.2.2.2.2, hk.2⟩⟩⟩⟩⟩))), (rr_ (Kd.R_mono HO330.out (fun _ hk => ⟨hk.1.1, ⟨hk.1.2.1, ⟨hk.1.2.2.1, ⟨hk.1.2.2.2.1, ⟨hk.1.2.2.2.2, hk.2⟩⟩⟩⟩⟩))), (rr_ (Kd.R_mono HO342.out (fun _ hk => ⟨hk.1.1, ⟨hk.1.2.1, ⟨hk.1.2.2.1, ⟨hk.1.2.2.2.1, ⟨hk.1.2.2.2.2, hk.2⟩⟩⟩⟩⟩))), (rr_ (Kd.R_mono HO354.out (fun _ hk => ⟨hk.1.1, ⟨hk.1.2.1, ⟨hk.1.2.2.1, ⟨hk.1.2.2.2.1, ⟨hk.1.2.2.2.2, hk.2⟩⟩⟩⟩⟩))), (rr_ (Kd.R_mono HO366.out (fun _ hk => ⟨hk.1.1, ⟨hk.1.2.1, ⟨hk.1.2.2.1, ⟨hk.1.2.2.2.1, ⟨hk.1.2.2.2.2, hk.2⟩⟩⟩⟩⟩))), (rr_ (Kd.R_mono HO378.out (fun _ hk => ⟨hk.1.1, ⟨hk.1.2.1, ⟨hk.1.2.2.1, ⟨hk.1.2.2.2.1, ⟨hk.1.2.2.2.2, hk.2⟩⟩⟩⟩⟩))), (rr_ (Kd.R_mono HO390.out (fun _ hk => ⟨hk.1.1.1.1.1.2, ⟨hk.1.1.1.1.2, ⟨hk.1.1.1.2, ⟨hk.1.1.2, ⟨hk.1.2, hk.2⟩⟩⟩⟩⟩))), bq_, bq_, bq_, bq_, bq_, bq_, bq_, bq_, bq_, GW399.out, GE399.out, NB314_399.out, NB399_314.out, NB315_399.out, NB399_315.out, NB327_399.out, NB399_327.out, NB339_399.out, NB399_339.out, NB351_399.out, NB399_351.out, NB363_399.out, NB399_363.out, NB375_399.out, NB399_375.out, NB387_399.out, NB399_387.out, hq_⟩)
     ·
      skip
      refine box_step ?hg (N := 22) ?hd (cs := #[.int .u8 0, .int .i64 0, .int .i64 0, .int .i64 0, .int .i64 0]) (t := 31) ?hr ?_; (case hd => rfl); (case hg => rfl); (case hr => first | (go_simp; done) | (go_simp; rfl))
      intro gb399 hg w113 hbox hb
      replace HO318 := Aside0.mk (Kd.R_below (rr_ HO318.out) hb)
      replace HO330 := Aside0.mk (Kd.R_below (rr_ HO330.out) hb)
      replace HO342 := Aside0.mk (Kd.R_below (rr_ HO342.out) hb)
      replace HO354 := Aside0.mk (Kd.R_below (rr_ HO354.out) hb)
      replace HO366 := Aside0.mk (Kd.R_below (rr_ HO366.out) hb)
      replace HO378 := Aside0.mk (Kd.R_below (rr_ HO378.out) hb)
      replace HO390 := Aside0.mk (Kd.R_below (rr_ HO390.out) hb)
      have BK399 := Aside0.mk (hbox)
      have GW399 := bz_ (hB_ HB.out) hg
      have GE399 := bz_ (hB_ HB.out) hg
      replace HB := Aside0.mk (below_step (hB_ HB.out) hb)
      have NB314_399 := bn_ BK314 hg
      have NB399_314 := bm_ BK314 hg
      replace BK314 := bs_ BK314 hb
      have NB315_399 := bn_ BK315 hg
      have NB399_315 := bm_ BK315 hg
      replace BK315 := bs_ BK315 hb
      have NB327_399 := bn_ BK327 hg
      have NB399_327 := bm_ BK327 hg
      replace BK327 := bs_ BK327 hb
      have NB339_399 := bn_ BK339 hg
      have NB399_339 := bm_ BK339 hg
      replace BK339 := bs_ BK339 hb
      have NB351_399 := bn_ BK351 hg
      have NB399_351 := bm_ BK351 hg
      replace BK351 := bs_ BK351 hb
      have NB363_399 := bn_ BK363 hg
      have NB399_363 := bm_ BK363 hg
      replace BK363 := bs_ BK363 hb
      have NB375_399 := bn_ BK375 hg
      have NB399_375 := bm_ BK375 hg
      replace BK375 := bs_ BK375 hb
      have NB387_399 := bn_ BK387 hg
      have NB399_387 := bm_ BK387 hg
      replace BK387 := bs_ BK387 hb
      clear hb hbox hg
      obtain ⟨Ao114, co114, eo114⟩ := Kd.R_slice HO390.out
      (first | subst eo114 | (injection eo114 with f1_ f2_ f3_; have f4_ := f1_.symm; have f5_ := f3_.symm; clear f1_ f2_ f3_; subst f4_; subst f5_))
      refine hK.out _ _ ⟨ck_ BK315 0, ck_ BK315 1, ck_ BK315 2, ck_ BK315 3, ck_ BK315 4⟩ (fun hHeld => ?_)
      clear hK K
      refine norm_ (a' := ?_) ?_ ?_
      rotate_left
      ·
       show Act.put _ (some 22) _ = _
       simp only [Act.put, sa_, s0_, s1_, i64_w, i32_w]
       rfl
      refine one_ (i := 2) (N := some 107) (b_ 9 71) rfl rfl (one_of HT_.out (by kernel_rfl)) (by decide) (fun K hK => ?_)
      refine goes_ Try.func15 (by kernel_rfl) rfl #[.agg #[.slice Ao114 t388.length co114, .int .i64 t391, .int .i64 t392], .agg #[.int .u8 3, .int .i64 1, .int .i64 17, .int .i64 0, .int .i64 0], .int .i64 8, .int .i64 17] (by rfl) rfl rfl (by (try simp only [List.map_toArray, List.map_cons, List.map_nil]); first | done | rfl | (simp only [List.length_drop, List.length_take]; rfl)) ?_
      with_reducible refine (task_Wake.calls kj6 _ _ t388 t391 t392 3 1 17 0 0 8 17 t393 t394 t395 t396 t397 t398 _ ?side1 ?side2 A35.out).mono ?_
      (case side1 => repeat (first | exact (Kd.R_reads' HO390.out).2.2 | (with_reducible refine Kd.C_alloc ?_ _) | (with_reducible refine Kd.C_drewN ?_ _) | (with_reducible refine Kd.C_drew ?_)))
      (case side2 => exact (Kd.R_reads' HO390.out).2.1)
      rintro e w115 ⟨rfl, hb⟩
      refine ⟨_, rfl, ?_⟩
      replace HO318 := Aside0.mk (Kd.R_below (rr_ HO318.out) hb)
      replace HO330 := Aside0.mk (Kd.R_below (rr_ HO330.out) hb)
      replace HO342 := Aside0.mk (Kd.R_below (rr_ HO342.out) hb)
      replace HO354 := Aside0.mk (Kd.R_below (rr_ HO354.out) hb)
      replace HO366 := Aside0.mk (Kd.R_below (rr_ HO366.out) hb)
      replace HO378 := Aside0.mk (Kd.R_below (rr_ HO378.out) hb)
      replace HO390 := Aside0.mk (Kd.R_below (rr_ HO390.out) hb)
      replace BK314 := bs_ BK314 hb
      replace BK315 := bs_ BK315 hb
      replace BK327 := bs_ BK327 hb
      replace BK339 := bs_ BK339 hb
      replace BK351 := bs_ BK351 hb
      replace BK363 := bs_ BK363 hb
      replace BK375 := bs_ BK375 hb
      replace BK387 := bs_ BK387 hb
      replace BK399 := bs_ BK399 hb
      replace HB := Aside0.mk (below_step (hB_ HB.out) hb)
      (try clear hb)
      (try clear hb2)
      (try clear hk)
      (try clear hi)
      refine hK.out _ _ ⟨ck_ BK315 0, ck_ BK315 1, ck_ BK315 2, ck_ BK315 3, ck_ BK315 4⟩ (fun hHeld => ?_)
      clear hK K
      refine norm_ (a' := ?_) ?_ ?_
      rotate_left
      ·
       show Act.put _ (some 107) _ = _
       simp only [Act.put, sa_, s0_, s1_, i64_w, i32_w]
       rfl
      refine pA_ 3 104 ?_ (b_ 9 79) (any_of HT_.out (by kernel_rfl)) rfl rfl (fun _ _ _ h => h) (by rfl) ?_ ?_ ?_ ?_; rotate_left
      · intro w'; go_simp; with_reducible rfl
      rotate_left
      · simp only [Act.put, sa_, s0_, s1_, i64_w, i32_w]; rfl
      refine pA_ 4 108 ?_ (b_ 9 95) (any_of HT_.out (by kernel_rfl)) rfl rfl (fun _ _ _ h => h) (by rfl) ?_ ?_ ?_ ?_; rotate_left
      · intro w'; go_simp; with_reducible rfl
      rotate_left
      · simp only [Act.put, sa_, s0_, s1_, i64_w, i32_w]; rfl
      refine pA_ 5 109 ?_ (b_ 9 127) (any_of HT_.out (by kernel_rfl)) rfl rfl (fun _ _ _ h => h) (by rfl) ?_ ?_ ?_ ?_; rotate_left
      · intro w'; go_simp; with_reducible rfl
      rotate_left
      · simp only [Act.put, sa_, s0_, s1_, i64_w, i32_w]; rfl
      exact norm_ (by simp only [putAll, Act.put, sa_, s0_, s1_]) (hCont (.slice Ao114 t388.length co114, gb399) _ ⟨hHeld, (rr_ (Kd.R_mono HO318.out (fun _ hk => ⟨hk.1.1, ⟨hk.1.2.1, ⟨hk.1.2.2.1, ⟨hk.1.2.2.2.1, ⟨hk.1.2.2.2.2, hk.2⟩⟩⟩⟩⟩))), (rr_ (Kd.R_mono HO330.out (fun _ hk => ⟨hk.1.1, ⟨hk.1.2.1, ⟨hk.1.2.2.1, ⟨hk.1.2.2.2.1, ⟨hk.1.2.2.2.2, hk.2⟩⟩⟩⟩⟩))), (rr_ (Kd.R_mono HO342.out (fun _ hk => ⟨hk.1.1, ⟨hk.1.2.1, ⟨hk.1.2.2.1, ⟨hk.1.2.2.2.1, ⟨hk.1.2.2.2.2, hk.2⟩⟩⟩⟩⟩))), (rr_ (Kd.R_mono HO354.out (fun _ hk => ⟨hk.1.1, ⟨hk.1.2.1, ⟨hk.1.2.2.1, ⟨hk.1.2.2.2.1, ⟨hk.1.2.2.2.2, hk.2⟩⟩⟩⟩⟩))), (rr_ (Kd.R_mono HO366.out (fun _ hk => ⟨hk.1.1, ⟨hk.1.2.1, ⟨hk.1.2.2.1, ⟨hk.1.2.2.2.1, ⟨hk.1.2.2.2.2, hk.2⟩⟩⟩⟩⟩))), (rr_ (Kd.R_mono HO378.out (fun _ hk => ⟨hk.1.1, ⟨hk.1.2.1, ⟨hk.1.2.2.1, ⟨hk.1.2.2.2.1, ⟨hk.1.2.2.2.2, hk.2⟩⟩⟩⟩⟩))), (rr_ (Kd.R_mono HO390.out (fun _ hk => ⟨hk.1.1.1.1.1.2, ⟨hk.1.1.1.1.2, ⟨hk.1.1.1.2, ⟨hk.1.1.2, ⟨hk.1.2, hk.2⟩⟩⟩⟩⟩))), bq_, bq_, bq_, bq_, bq_, bq_, bq_, bq_, bq_, GW399.out, GE399.out, NB314_399.out, NB399_314.out, NB315_399.out, NB399_315.out, NB327_399.out, NB399_327.out, NB339_399.out, NB399_339.out, NB351_399.out, NB399_351.out, NB363_399.out, NB399_363.out, NB375_399.out, NB399_375.out, NB387_399.out, NB399_387.out, hq_⟩)
    ·
     skip
     refine box_step ?hg (N := 22) ?hd (cs := #[.int .u8 0, .int .i64 0, .int .i64 0, .int .i64 0, .int .i64 0]) (t := 31) ?hr ?_; (case hd => rfl); (case hg => rfl); (case hr => first | (go_simp; done) | (go_simp; rfl))
     intro gb399 hg w112 hbox hb
     replace HO318 := Aside0.mk (Kd.R_below (rr_ HO318.out) hb)
     replace HO330 := Aside0.mk (Kd.R_below (rr_ HO330.out) hb)
     replace HO342 := Aside0.mk (Kd.R_below (rr_ HO342.out) hb)
     replace HO354 := Aside0.mk (Kd.R_below (rr_ HO354.out) hb)
     replace HO366 := Aside0.mk (Kd.R_below (rr_ HO366.out) hb)
     replace HO378 := Aside0.mk (Kd.R_below (rr_ HO378.out) hb)
     have BK399 := Aside0.mk (hbox)
     have GW399 := bz_ (hB_ HB.out) hg
     have GE399 := bz_ (hB_ HB.out) hg
     replace HB := Aside0.mk (below_step (hB_ HB.out) hb)
     have NB314_399 := bn_ BK314 hg
     have NB399_314 := bm_ BK314 hg
     replace BK314 := bs_ BK314 hb
     have NB315_399 := bn_ BK315 hg
     have NB399_315 := bm_ BK315 hg
     replace BK315 := bs_ BK315 hb
     have NB327_399 := bn_ BK327 hg
     have NB399_327 := bm_ BK327 hg
     replace BK327 := bs_ BK327 hb
     have NB339_399 := bn_ BK339 hg
     have NB399_339 := bm_ BK339 hg
     replace BK339 := bs_ BK339 hb
     have NB351_399 := bn_ BK351 hg
     have NB399_351 := bm_ BK351 hg
     replace BK351 := bs_ BK351 hb
     have NB363_399 := bn_ BK363 hg
     have NB399_363 := bm_ BK363 hg
     replace BK363 := bs_ BK363 hb
     have NB375_399 := bn_ BK375 hg
     have NB399_375 := bm_ BK375 hg
     replace BK375 := bs_ BK375 hb
     have NB387_399 := bn_ BK387 hg
     have NB399_387 := bm_ BK387 hg
     replace BK387 := bs_ BK387 hb
     clear hb hbox hg
     refine hK.out _ _ ⟨ck_ BK315 0, ck_ BK315 1, ck_ BK315 2, ck_ BK315 3, ck_ BK315 4⟩ (fun hHeld => ?_)
     clear hK K
     refine norm_ (a' := ?_) ?_ ?_
     rotate_left
     ·
      show Act.put _ (some 22) _ = _
      simp only [Act.put, sa_, s0_, s1_, i64_w, i32_w]
      rfl
     refine one_ (i := 0) (N := some 105) (b_ 9 67) rfl rfl (one_of HT_.out (by kernel_rfl)) (by decide) (fun K hK => ?_)
     refine goes_ Try.func11 (by kernel_rfl) rfl #[] (by rfl) rfl rfl (by (try simp only [List.map_toArray, List.map_cons, List.map_nil]); first | done | rfl | (simp only [List.length_drop, List.length_take]; rfl)) ?_
     with_reducible refine (millhandlaw24_node.calls  t388 t391 t392 _ A34.out).mono ?_
     rintro e w113 ⟨v389, rfl, ho0, hb⟩
     refine ⟨_, rfl, ?_⟩
     have HO390 := Aside0.mk (Kd.R_lower (Kd.R_new' (Kd.R_new' (Kd.R_new' (Kd.R_new' (Kd.R_new' (Kd.R_new' ho0 (Kd.R_lt (rr_ HO318.out))) (Kd.R_lt (rr_ HO330.out))) (Kd.R_lt (rr_ HO342.out))) (Kd.R_lt (rr_ HO354.out))) (Kd.R_lt (rr_ HO366.out))) (Kd.R_lt (rr_ HO378.out))) (below_size (hB_ HB.out)))
     replace HO318 := Aside0.mk (Kd.R_elder' (rr_ HO318.out) (Kd.R_base ho0) hb)
     replace HO330 := Aside0.mk (Kd.R_elder' (rr_ HO330.out) (Kd.R_base ho0) hb)
     replace HO342 := Aside0.mk (Kd.R_elder' (rr_ HO342.out) (Kd.R_base ho0) hb)
     replace HO354 := Aside0.mk (Kd.R_elder' (rr_ HO354.out) (Kd.R_base ho0) hb)
     replace HO366 := Aside0.mk (Kd.R_elder' (rr_ HO366.out) (Kd.R_base ho0) hb)
     replace HO378 := Aside0.mk (Kd.R_elder' (rr_ HO378.out) (Kd.R_base ho0) hb)
     replace BK314 := bs_ BK314 hb
     replace BK315 := bs_ BK315 hb
     replace BK327 := bs_ BK327 hb
     replace BK339 := bs_ BK339 hb
     replace BK351 := bs_ BK351 hb
     replace BK363 := bs_ BK363 hb
     replace BK375 := bs_ BK375 hb
     replace BK387 := bs_ BK387 hb
     replace BK399 := bs_ BK399 hb
     replace HB := Aside0.mk (below_step (hB_ HB.out) hb)
     (try clear hb)
     (try clear hb2)
     (try clear hk)
     (try clear hi)
     (try clear ho0)
     obtain ⟨Ao114, co114, eo114⟩ := Kd.R_slice HO390.out
     (first | subst eo114 | (injection eo114 with f1_ f2_ f3_; have f4_ := f1_.symm; have f5_ := f3_.symm; clear f1_ f2_ f3_; subst f4_; subst f5_))
     refine hK.out _ _ ⟨ck_ BK315 0, ck_ BK315 1, ck_ BK315 2, ck_ BK315 3, ck_ BK315 4⟩ (fun hHeld => ?_)
     clear hK K
     refine norm_ (a' := ?_) ?_ ?_
     rotate_left
     ·
      show Act.put _ (some 105) _ = _
      simp only [Act.put, sa_, s0_, s1_, i64_w, i32_w]
      rfl
     refine one_ (i := 2) (N := some 107) (b_ 9 71) rfl rfl (one_of HT_.out (by kernel_rfl)) (by decide) (fun K hK => ?_)
     refine goes_ Try.func15 (by kernel_rfl) rfl #[.agg #[.slice Ao114 t388.length co114, .int .i64 t391, .int .i64 t392], .agg #[.int .u8 3, .int .i64 1, .int .i64 17, .int .i64 0, .int .i64 0], .int .i64 8, .int .i64 17] (by rfl) rfl rfl (by (try simp only [List.map_toArray, List.map_cons, List.map_nil]); first | done | rfl | (simp only [List.length_drop, List.length_take]; rfl)) ?_
     with_reducible refine (task_Wake.calls kj6 _ _ t388 t391 t392 3 1 17 0 0 8 17 t393 t394 t395 t396 t397 t398 _ ?side1 ?side2 A35.out).mono ?_
     (case side1 => repeat (first | exact (Kd.R_reads' HO390.out).2.2 | (with_reducible refine Kd.C_alloc ?_ _) | (with_reducible refine Kd.C_drewN ?_ _) | (with_reducible refine Kd.C_drew ?_)))
     (case side2 => exact (Kd.R_reads' HO390.out).2.1)
     rintro e w115 ⟨rfl, hb⟩
     refine ⟨_, rfl, ?_⟩
     replace HO318 := Aside0.mk (Kd.R_below (rr_ HO318.out) hb)
     replace HO330 := Aside0.mk (Kd.R_below (rr_ HO330.out) hb)
     replace HO342 := Aside0.mk (Kd.R_below (rr_ HO342.out) hb)
     replace HO354 := Aside0.mk (Kd.R_below (rr_ HO354.out) hb)
     replace HO366 := Aside0.mk (Kd.R_below (rr_ HO366.out) hb)
     replace HO378 := Aside0.mk (Kd.R_below (rr_ HO378.out) hb)
     replace HO390 := Aside0.mk (Kd.R_below (rr_ HO390.out) hb)
     replace BK314 := bs_ BK314 hb
     replace BK315 := bs_ BK315 hb
     replace BK327 := bs_ BK327 hb
     replace BK339 := bs_ BK339 hb
     replace BK351 := bs_ BK351 hb
     replace BK363 := bs_ BK363 hb
     replace BK375 := bs_ BK375 hb
     replace BK387 := bs_ BK387 hb
     replace BK399 := bs_ BK399 hb
     replace HB := Aside0.mk (below_step (hB_ HB.out) hb)
     (try clear hb)
     (try clear hb2)
     (try clear hk)
     (try clear hi)
     refine hK.out _ _ ⟨ck_ BK315 0, ck_ BK315 1, ck_ BK315 2, ck_ BK315 3, ck_ BK315 4⟩ (fun hHeld => ?_)
     clear hK K
     refine norm_ (a' := ?_) ?_ ?_
     rotate_left
     ·
      show Act.put _ (some 107) _ = _
      simp only [Act.put, sa_, s0_, s1_, i64_w, i32_w]
      rfl
     refine pA_ 3 104 ?_ (b_ 9 79) (any_of HT_.out (by kernel_rfl)) rfl rfl (fun _ _ _ h => h) (by rfl) ?_ ?_ ?_ ?_; rotate_left
     · intro w'; go_simp; with_reducible rfl
     rotate_left
     · simp only [Act.put, sa_, s0_, s1_, i64_w, i32_w]; rfl
     refine pA_ 4 108 ?_ (b_ 9 95) (any_of HT_.out (by kernel_rfl)) rfl rfl (fun _ _ _ h => h) (by rfl) ?_ ?_ ?_ ?_; rotate_left
     · intro w'; go_simp; with_reducible rfl
     rotate_left
     · simp only [Act.put, sa_, s0_, s1_, i64_w, i32_w]; rfl
     refine pA_ 5 109 ?_ (b_ 9 127) (any_of HT_.out (by kernel_rfl)) rfl rfl (fun _ _ _ h => h) (by rfl) ?_ ?_ ?_ ?_; rotate_left
     · intro w'; go_simp; with_reducible rfl
     rotate_left
     · simp only [Act.put, sa_, s0_, s1_, i64_w, i32_w]; rfl
     exact norm_ (by simp only [putAll, Act.put, sa_, s0_, s1_]) (hCont (.slice Ao114 t388.length co114, gb399) _ ⟨hHeld, (rr_ (Kd.R_mono HO318.out (fun _ hk => ⟨hk.1.1, ⟨hk.1.2.1, ⟨hk.1.2.2.1, ⟨hk.1.2.2.2.1, ⟨hk.1.2.2.2.2, hk.2⟩⟩⟩⟩⟩))), (rr_ (Kd.R_mono HO330.out (fun _ hk => ⟨hk.1.1, ⟨hk.1.2.1, ⟨hk.1.2.2.1, ⟨hk.1.2.2.2.1, ⟨hk.1.2.2.2.2, hk.2⟩⟩⟩⟩⟩))), (rr_ (Kd.R_mono HO342.out (fun _ hk => ⟨hk.1.1, ⟨hk.1.2.1, ⟨hk.1.2.2.1, ⟨hk.1.2.2.2.1, ⟨hk.1.2.2.2.2, hk.2⟩⟩⟩⟩⟩))), (rr_ (Kd.R_mono HO354.out (fun _ hk => ⟨hk.1.1, ⟨hk.1.2.1, ⟨hk.1.2.2.1, ⟨hk.1.2.2.2.1, ⟨hk.1.2.2.2.2, hk.2⟩⟩⟩⟩⟩))), (rr_ (Kd.R_mono HO366.out (fun _ hk => ⟨hk.1.1, ⟨hk.1.2.1, ⟨hk.1.2.2.1, ⟨hk.1.2.2.2.1, ⟨hk.1.2.2.2.2, hk.2⟩⟩⟩⟩⟩))), (rr_ (Kd.R_mono HO378.out (fun _ hk => ⟨hk.1.1, ⟨hk.1.2.1, ⟨hk.1.2.2.1, ⟨hk.1.2.2.2.1, ⟨hk.1.2.2.2.2, hk.2⟩⟩⟩⟩⟩))), (rr_ (Kd.R_mono HO390.out (fun _ hk => ⟨hk.1.1.1.1.1.2, ⟨hk.1.1.1.1.2, ⟨hk.1.1.1.2, ⟨hk.1.1.2, ⟨hk.1.2, hk.2⟩⟩⟩⟩⟩))), bq_, bq_, bq_, bq_, bq_, bq_, bq_, bq_, bq_, GW399.out, GE399.out, NB314_399.out, NB399_314.out, NB315_399.out, NB399_315.out, NB327_399.out, NB399_327.out, NB339_399.out, NB399_339.out, NB351_399.out, NB399_351.out, NB363_399.out, NB399_363.out, NB375_399.out, NB399_375.out, NB387_399.out, NB399_387.out, hq_⟩)
   rintro ⟨v389, gb399⟩ w116 ⟨hS_, h0_, h1_, h2_, h3_, h4_, h5_, h6_, h7_, h8_, h9_, h10_, h11_, h12_, h13_, h14_, h15_, h16_, h17_, h18_, h19_, h20_, h21_, h22_, h23_, h24_, h25_, h26_, h27_, h28_, h29_, h30_, h31_, h32_, h33_, h34_⟩
   (try dsimp only at h0_ h1_ h2_ h3_ h4_ h5_ h6_ h7_ h8_ h9_ h10_ h11_ h12_ h13_ h14_ h15_ h16_ h17_ h18_ h19_ h20_ h21_ h22_ h23_ h24_ h25_ h26_ h27_ h28_ h29_ h30_ h31_ h32_ h33_ h34_)
   have n0_ := Aside0.mk h0_
   have n1_ := Aside0.mk h1_
   have n2_ := Aside0.mk h2_
   have n3_ := Aside0.mk h3_
   have n4_ := Aside0.mk h4_
   have n5_ := Aside0.mk h5_
   have n6_ := Aside0.mk h6_
   have n7_ := Aside0.mk h7_
   have n8_ := Aside0.mk h8_
   have n9_ := Aside0.mk h9_
   have n10_ := Aside0.mk h10_
   have n11_ := Aside0.mk h11_
   have n12_ := Aside0.mk h12_
   have n13_ := Aside0.mk h13_
   have n14_ := Aside0.mk h14_
   have n15_ := Aside0.mk h15_
   have n16_ := Aside0.mk h16_
   have n17_ := Aside0.mk h17_
   have n18_ := Aside0.mk h18_
   have n19_ := Aside0.mk h19_
   have n20_ := Aside0.mk h20_
   have n21_ := Aside0.mk h21_
   have n22_ := Aside0.mk h22_
   have n23_ := Aside0.mk h23_
   have n24_ := Aside0.mk h24_
   have n25_ := Aside0.mk h25_
   have n26_ := Aside0.mk h26_
   have n27_ := Aside0.mk h27_
   have n28_ := Aside0.mk h28_
   have n29_ := Aside0.mk h29_
   have n30_ := Aside0.mk h30_
   have n31_ := Aside0.mk h31_
   have n32_ := Aside0.mk h32_
   have n33_ := Aside0.mk h33_
   have n34_ := Aside0.mk h34_
   clear HO318
   clear HO330
   clear HO342
   clear HO354
   clear HO366
   clear HO378
   clear BK314
   clear BK315
   clear BK327
   clear BK339
   clear BK351
   clear BK363
   clear BK375
   clear BK387
   clear HB
   clear h0_ h1_ h2_ h3_ h4_ h5_ h6_ h7_ h8_ h9_ h10_ h11_ h12_ h13_ h14_ h15_ h16_ h17_ h18_ h19_ h20_ h21_ h22_ h23_ h24_ h25_ h26_ h27_ h28_ h29_ h30_ h31_ h32_ h33_ h34_
   have HO318 := n0_
   have HO330 := n1_
   have HO342 := n2_
   have HO354 := n3_
   have HO366 := n4_
   have HO378 := n5_
   have HO390 := n6_
   have BK314 := n7_
   have BK315 := n8_
   have BK327 := n9_
   have BK339 := n10_
   have BK351 := n11_
   have BK363 := n12_
   have BK375 := n13_
   have BK387 := n14_
   have BK399 := n15_
   have GW399 := n16_
   have GE399 := n17_
   have NB314_399 := n18_
   have NB399_314 := n19_
   have NB315_399 := n20_
   have NB399_315 := n21_
   have NB327_399 := n22_
   have NB399_327 := n23_
   have NB339_399 := n24_
   have NB399_339 := n25_
   have NB351_399 := n26_
   have NB399_351 := n27_
   have NB363_399 := n28_
   have NB399_363 := n29_
   have NB375_399 := n30_
   have NB399_375 := n31_
   have NB387_399 := n32_
   have NB399_387 := n33_
   have HB := n34_
   clear n0_ n1_ n2_ n3_ n4_ n5_ n6_ n7_ n8_ n9_ n10_ n11_ n12_ n13_ n14_ n15_ n16_ n17_ n18_ n19_ n20_ n21_ n22_ n23_ n24_ n25_ n26_ n27_ n28_ n29_ n30_ n31_ n32_ n33_ n34_
   have hHeld : w116.cell? ⟨gb315, 0, none⟩ = some (.int .u8 3) ∧ w116.cell? ⟨gb315, 1, none⟩ = some (.int .i64 1) ∧ w116.cell? ⟨gb315, 2, none⟩ = some (.int .i64 17) ∧ w116.cell? ⟨gb315, 3, none⟩ = some (.int .i64 0) ∧ w116.cell? ⟨gb315, 4, none⟩ = some (.int .i64 0) := hS_
   refine norm_ (a' := ?_) ?_ ?_; rotate_left
   · simp only [putAll, Act.put, sa_, s0_, s1_]; rfl
   refine one_ (i := 7) (N := none) (b_ 9 255) rfl rfl (one_of HT_.out (by kernel_rfl)) (by decide) (fun K hK => ?_)
   have hs117 : w116.cell? ⟨gb399, 0, none⟩ = some (.int .u8 0) := ck_ BK399 0
   have hfs117 := blk_frozen BK399.out 0
   have hns117_0 := NB314_399.out
   have hns117_1 := NB315_399.out
   have hns117_2 := NB327_399.out
   have hns117_3 := NB339_399.out
   have hns117_4 := NB351_399.out
   have hns117_5 := NB363_399.out
   have hns117_6 := NB375_399.out
   have hns117_7 := NB387_399.out
   have hms117_0 := NB399_314.out
   have hms117_1 := NB399_315.out
   have hms117_2 := NB399_327.out
   have hms117_3 := NB399_339.out
   have hms117_4 := NB399_351.out
   have hms117_5 := NB399_363.out
   have hms117_6 := NB399_375.out
   have hms117_7 := NB399_387.out
   have hs118 : w116.cell? ⟨gb399, 1, none⟩ = some (.int .i64 0) := ck_ BK399 1
   have hfs118 := blk_frozen BK399.out 1
   have hns118_0 := NB314_399.out
   have hns118_1 := NB315_399.out
   have hns118_2 := NB327_399.out
   have hns118_3 := NB339_399.out
   have hns118_4 := NB351_399.out
   have hns118_5 := NB363_399.out
   have hns118_6 := NB375_399.out
   have hns118_7 := NB387_399.out
   have hms118_0 := NB399_314.out
   have hms118_1 := NB399_315.out
   have hms118_2 := NB399_327.out
   have hms118_3 := NB399_339.out
   have hms118_4 := NB399_351.out
   have hms118_5 := NB399_363.out
   have hms118_6 := NB399_375.out
   have hms118_7 := NB399_387.out
   have hs119 : w116.cell? ⟨gb399, 2, none⟩ = some (.int .i64 0) := ck_ BK399 2
   have hfs119 := blk_frozen BK399.out 2
   have hns119_0 := NB314_399.out
   have hns119_1 := NB315_399.out
   have hns119_2 := NB327_399.out
   have hns119_3 := NB339_399.out
   have hns119_4 := NB351_399.out
   have hns119_5 := NB363_399.out
   have hns119_6 := NB375_399.out
   have hns119_7 := NB387_399.out
   have hms119_0 := NB399_314.out
   have hms119_1 := NB399_315.out
   have hms119_2 := NB399_327.out
   have hms119_3 := NB399_339.out
   have hms119_4 := NB399_351.out
   have hms119_5 := NB399_363.out
   have hms119_6 := NB399_375.out
   have hms119_7 := NB399_387.out
   have hs120 : w116.cell? ⟨gb399, 3, none⟩ = some (.int .i64 0) := ck_ BK399 3
   have hfs120 := blk_frozen BK399.out 3
   have hns120_0 := NB314_399.out
   have hns120_1 := NB315_399.out
   have hns120_2 := NB327_399.out
   have hns120_3 := NB339_399.out
   have hns120_4 := NB351_399.out
   have hns120_5 := NB363_399.out
   have hns120_6 := NB375_399.out
   have hns120_7 := NB387_399.out
   have hms120_0 := NB399_314.out
   have hms120_1 := NB399_315.out
   have hms120_2 := NB399_327.out
   have hms120_3 := NB399_339.out
   have hms120_4 := NB399_351.out
   have hms120_5 := NB399_363.out
   have hms120_6 := NB399_375.out
   have hms120_7 := NB399_387.out
   have hs121 : w116.cell? ⟨gb399, 4, none⟩ = some (.int .i64 0) := ck_ BK399 4
   have hfs121 := blk_frozen BK399.out 4
   have hns121_0 := NB314_399.out
   have hns121_1 := NB315_399.out
   have hns121_2 := NB327_399.out
   have hns121_3 := NB339_399.out
   have hns121_4 := NB351_399.out
   have hns121_5 := NB363_399.out
   have hns121_6 := NB375_399.out
   have hns121_7 := NB387_399.out
   have hms121_0 := NB399_314.out
   have hms121_1 := NB399_315.out
   have hms121_2 := NB399_327.out
   have hms121_3 := NB399_339.out
   have hms121_4 := NB399_351.out
   have hms121_5 := NB399_363.out
   have hms121_6 := NB399_375.out
   have hms121_7 := NB399_387.out
   refine skip_ (w1 := ?_) (by rfl) rfl ?_ ?_; rotate_left
   · go_simp; rfl
   refine hK.out _ _ ⟨((cell_far (p := ⟨gb399, _, none⟩) NB315_399.out _).trans (((cell_far (p := ⟨gb399, _, none⟩) NB315_399.out _).trans (((cell_far (p := ⟨gb399, _, none⟩) NB315_399.out _).trans (((cell_far (p := ⟨gb399, _, none⟩) NB315_399.out _).trans (((cell_far (p := ⟨gb399, _, none⟩) NB315_399.out _).trans (hHeld.1)))))))))), ((cell_far (p := ⟨gb399, _, none⟩) NB315_399.out _).trans (((cell_far (p := ⟨gb399, _, none⟩) NB315_399.out _).trans (((cell_far (p := ⟨gb399, _, none⟩) NB315_399.out _).trans (((cell_far (p := ⟨gb399, _, none⟩) NB315_399.out _).trans (((cell_far (p := ⟨gb399, _, none⟩) NB315_399.out _).trans (hHeld.2.1)))))))))), ((cell_far (p := ⟨gb399, _, none⟩) NB315_399.out _).trans (((cell_far (p := ⟨gb399, _, none⟩) NB315_399.out _).trans (((cell_far (p := ⟨gb399, _, none⟩) NB315_399.out _).trans (((cell_far (p := ⟨gb399, _, none⟩) NB315_399.out _).trans (((cell_far (p := ⟨gb399, _, none⟩) NB315_399.out _).trans (hHeld.2.2.1)))))))))), ((cell_far (p := ⟨gb399, _, none⟩) NB315_399.out _).trans (((cell_far (p := ⟨gb399, _, none⟩) NB315_399.out _).trans (((cell_far (p := ⟨gb399, _, none⟩) NB315_399.out _).trans (((cell_far (p := ⟨gb399, _, none⟩) NB315_399.out _).trans (((cell_far (p := ⟨gb399, _, none⟩) NB315_399.out _).trans (hHeld.2.2.2.1)))))))))), ((cell_far (p := ⟨gb399, _, none⟩) NB315_399.out _).trans (((cell_far (p := ⟨gb399, _, none⟩) NB315_399.out _).trans (((cell_far (p := ⟨gb399, _, none⟩) NB315_399.out _).trans (((cell_far (p := ⟨gb399, _, none⟩) NB315_399.out _).trans (((cell_far (p := ⟨gb399, _, none⟩) NB315_399.out _).trans (hHeld.2.2.2.2))))))))))⟩ (fun hHeld => ?_)
   clear hK K
   refine pA_ 8 23 ?_ (b_ 9 511) (any_of HT_.out (by kernel_rfl)) rfl rfl (fun _ _ _ h => h) (by rfl) ?_ ?_ ?_ ?_; rotate_left
   · intro w'; go_simp; with_reducible rfl
   rotate_left
   · simp only [Act.put, sa_, s0_, s1_, i64_w, i32_w]; rfl
   refine done_ (done_of HT_.out (by kernel_rfl)) ?_
   go_upto_region 14 with (fail)
   go_cut [24] (fun v24 wc => ∃ (kq : Nat) (x24_35 : Bool), v24 = .bool x24_35 ∧ Aside0 (x24_35 = true) ∧ Aside0 (millhandlaw24_TaskNames.j1 kq x7_6 x24_35 = some r) ∧ Aside0 (kq ≤ kj6) ∧ Aside0 (wc.heap[gb314]? = some (.cells #[.int .u8 2, .int .i64 1, .int .i64 30, .int .i64 4, .int .i64 0] 31 (0, 0))) ∧ Aside0 (wc.heap[gb315]? = some (.cells #[.int .u8 3, .int .i64 1, .int .i64 17, .int .i64 0, .int .i64 0] 31 (0, 0))) ∧ Aside0 (wc.heap[gb327]? = some (.cells #[.int .u8 t321, .int .i64 t322, .int .i64 t323, .int .i64 t324, .int .i64 t325] 31 (0, 0))) ∧ Aside0 (wc.heap[gb339]? = some (.cells #[.int .u8 t333, .int .i64 t334, .int .i64 t335, .int .i64 t336, .int .i64 t337] 31 (0, 0))) ∧ Aside0 (wc.heap[gb351]? = some (.cells #[.int .u8 t345, .int .i64 t346, .int .i64 t347, .int .i64 t348, .int .i64 t349] 31 (0, 0))) ∧ Aside0 (wc.heap[gb363]? = some (.cells #[.int .u8 t357, .int .i64 t358, .int .i64 t359, .int .i64 t360, .int .i64 t361] 31 (0, 0))) ∧ Aside0 (wc.heap[gb375]? = some (.cells #[.int .u8 t369, .int .i64 t370, .int .i64 t371, .int .i64 t372, .int .i64 t373] 31 (0, 0))) ∧ Aside0 (wc.heap[gb387]? = some (.cells #[.int .u8 t381, .int .i64 t382, .int .i64 t383, .int .i64 t384, .int .i64 t385] 31 (0, 0))) ∧ Aside0 (wc.heap[gb399]? = some (.cells #[.int .u8 t393, .int .i64 t394, .int .i64 t395, .int .i64 t396, .int .i64 t397] 31 (0, 0))) ∧ Aside0 (Below w.heap.size w wc))
   case first =>
    have H := HC36.out
    clear HC36
    by_cases c122 : t326 = 260
    ·
     rw [if_pos c122] at H
     have c122b0 : (t326 == 260) = true := beq_iff_eq.mpr c122
     have c122b1 : (t326 != 260) = false := bne_eq_false_iff_eq.mpr c122
     clear c122
     (first | rw [c122b0] | (simp only [i64_w, i32_w]; rw [c122b0]) | skip)
     by_cases c123 : t338 = 240
     ·
      rw [if_pos c123] at H
      have c123b0 : (t338 == 240) = true := beq_iff_eq.mpr c123
      have c123b1 : (t338 != 240) = false := bne_eq_false_iff_eq.mpr c123
      clear c123
      by_cases c124 : t350 = 0
      ·
       rw [if_pos c124] at H
       have c124b0 : (t350 == 0) = true := beq_iff_eq.mpr c124
       have c124b1 : (t350 != 0) = false := bne_eq_false_iff_eq.mpr c124
       clear c124
       by_cases c125 : t347 = 40
       ·
        rw [if_pos c125] at H
        have c125b0 : (t347 == 40) = true := beq_iff_eq.mpr c125
        have c125b1 : (t347 != 40) = false := bne_eq_false_iff_eq.mpr c125
        clear c125
        by_cases c126 : t362 = 240
        ·
         rw [if_pos c126] at H
         have c126b0 : (t362 == 240) = true := beq_iff_eq.mpr c126
         have c126b1 : (t362 != 240) = false := bne_eq_false_iff_eq.mpr c126
         clear c126
         by_cases c127 : t374 = 0
         ·
          rw [if_pos c127] at H
          have c127b0 : (t374 == 0) = true := beq_iff_eq.mpr c127
          have c127b1 : (t374 != 0) = false := bne_eq_false_iff_eq.mpr c127
          clear c127
          by_cases c128 : t371 = 35
          ·
           rw [if_pos c128] at H
           have c128b0 : (t371 == 35) = true := beq_iff_eq.mpr c128
           have c128b1 : (t371 != 35) = false := bne_eq_false_iff_eq.mpr c128
           clear c128
           by_cases c129 : t369 = 3
           ·
            rw [if_pos c129] at H
            have c129b0 : (t369 == 3) = true := beq_iff_eq.mpr c129
            have c129b1 : (t369 != 3) = false := bne_eq_false_iff_eq.mpr c129
            clear c129
            by_cases c130 : t386 = 240
            ·
             rw [if_pos c130] at H
             have c130b0 : (t386 == 240) = true := beq_iff_eq.mpr c130
             have c130b1 : (t386 != 240) = false := bne_eq_false_iff_eq.mpr c130
             clear c130
             by_cases c131 : t398 = 0
             ·
              rw [if_pos c131] at H
              have c131b0 : (t398 == 0) = true := beq_iff_eq.mpr c131
              have c131b1 : (t398 != 0) = false := bne_eq_false_iff_eq.mpr c131
              clear c131
              have H' := Aside0.mk H
              clear H
              have hnb137 := NB351_375.out
              have hnc137 := NB375_351.out
              have hnb139 := NB351_399.out
              have hnc139 := NB399_351.out
              have hcz140_0 : w116.cell? ⟨gb351, 0, none⟩ = some (.int .u8 t345) := ck_ BK351 0
              have hcz140_1 : w116.cell? ⟨gb351, 1, none⟩ = some (.int .i64 t346) := ck_ BK351 1
              have hcz140_2 : w116.cell? ⟨gb351, 2, none⟩ = some (.int .i64 t347) := ck_ BK351 2
              have hcz140_3 : w116.cell? ⟨gb351, 3, none⟩ = some (.int .i64 t348) := ck_ BK351 3
              have hcz140_4 : w116.cell? ⟨gb351, 4, none⟩ = some (.int .i64 t349) := ck_ BK351 4
              have hfz140_0 := blk_frozen BK351.out 0
              have hfz140_1 := blk_frozen BK351.out 1
              have hfz140_2 := blk_frozen BK351.out 2
              have hfz140_3 := blk_frozen BK351.out 3
              have hfz140_4 := blk_frozen BK351.out 4
              have hnb147 := NB375_399.out
              have hnc147 := NB399_375.out
              have hcz148_0 : w116.cell? ⟨gb375, 0, none⟩ = some (.int .u8 t369) := ck_ BK375 0
              have hcz148_1 : w116.cell? ⟨gb375, 1, none⟩ = some (.int .i64 t370) := ck_ BK375 1
              have hcz148_2 : w116.cell? ⟨gb375, 2, none⟩ = some (.int .i64 t371) := ck_ BK375 2
              have hcz148_3 : w116.cell? ⟨gb375, 3, none⟩ = some (.int .i64 t372) := ck_ BK375 3
              have hcz148_4 : w116.cell? ⟨gb375, 4, none⟩ = some (.int .i64 t373) := ck_ BK375 4
              have hfz148_0 := blk_frozen BK375.out 0
              have hfz148_1 := blk_frozen BK375.out 1
              have hfz148_2 := blk_frozen BK375.out 2
              have hfz148_3 := blk_frozen BK375.out 3
              have hfz148_4 := blk_frozen BK375.out 4
              have hcz155_0 : w116.cell? ⟨gb399, 0, none⟩ = some (.int .u8 0) := ck_ BK399 0
              have hcz155_1 : w116.cell? ⟨gb399, 1, none⟩ = some (.int .i64 0) := ck_ BK399 1
              have hcz155_2 : w116.cell? ⟨gb399, 2, none⟩ = some (.int .i64 0) := ck_ BK399 2
              have hcz155_3 : w116.cell? ⟨gb399, 3, none⟩ = some (.int .i64 0) := ck_ BK399 3
              have hcz155_4 : w116.cell? ⟨gb399, 4, none⟩ = some (.int .i64 0) := ck_ BK399 4
              have hfz155_0 := blk_frozen BK399.out 0
              have hfz155_1 := blk_frozen BK399.out 1
              have hfz155_2 := blk_frozen BK399.out 2
              have hfz155_3 := blk_frozen BK399.out 3
              have hfz155_4 := blk_frozen BK399.out 4
              go_wp2
              go_meet
              case rel => exact ⟨_, ((t393 == 1 && (t394 == 1 && (t395 == 0 && (t396 == 0 && (t397 == 8)))))), (by first | rfl | (simp; done) | (simp [*]; done)), ⟨c5s_of (vWake (vNode A34.out) A35.out) (by decide +kernel)⟩, H', ⟨by have := HJ6.out; first | omega | exact Nat.le_refl _⟩, ⟨bf_⟩, ⟨bf_⟩, ⟨bf_⟩, ⟨bf_⟩, ⟨bf_⟩, ⟨bf_⟩, ⟨bf_⟩, ⟨bf_⟩, ⟨by (with_reducible repeat (first | refine blk_drewN ?_ _ | refine blk_drew ?_ | refine blk_alloc ?_ _)); refine blk_put (cs := #[.int .u8 t393, .int .i64 t394, .int .i64 t395, .int .i64 t396, .int .i64 0]) ?_ 4 _ rfl; (with_reducible repeat (first | refine blk_drewN ?_ _ | refine blk_drew ?_ | refine blk_alloc ?_ _)); refine blk_put (cs := #[.int .u8 t393, .int .i64 t394, .int .i64 t395, .int .i64 0, .int .i64 0]) ?_ 3 _ rfl; (with_reducible repeat (first | refine blk_drewN ?_ _ | refine blk_drew ?_ | refine blk_alloc ?_ _)); refine blk_put (cs := #[.int .u8 t393, .int .i64 t394, .int .i64 0, .int .i64 0, .int .i64 0]) ?_ 2 _ rfl; (with_reducible repeat (first | refine blk_drewN ?_ _ | refine blk_drew ?_ | refine blk_alloc ?_ _)); refine blk_put (cs := #[.int .u8 t393, .int .i64 0, .int .i64 0, .int .i64 0, .int .i64 0]) ?_ 1 _ rfl; (with_reducible repeat (first | refine blk_drewN ?_ _ | refine blk_drew ?_ | refine blk_alloc ?_ _)); refine blk_put (cs := #[.int .u8 0, .int .i64 0, .int .i64 0, .int .i64 0, .int .i64 0]) ?_ 0 _ rfl; (with_reducible repeat (first | refine blk_drewN ?_ _ | refine blk_drew ?_ | refine blk_alloc ?_ _)); exact BK399.out⟩, ⟨hq_⟩⟩
             · exact absurd (c6_of (vWake (vNode A34.out) A35.out) (by decide +kernel)) c131
            · exact absurd (c6_of (vWake (vNode A32.out) A33.out) (by decide +kernel)) c130
           · exact absurd (c1_of (vLapse (vNode A30.out) A31.out) (by decide +kernel)) c129
          · exact absurd (c3_of (vLapse (vNode A30.out) A31.out) (by decide +kernel)) c128
         · exact absurd (c6_of (vLapse (vNode A30.out) A31.out) (by decide +kernel)) c127
        · exact absurd (c6_of (vLapse (vNode A28.out) A29.out) (by decide +kernel)) c126
       · exact absurd (c3_of (vBeat (vNode A26.out) A27.out) (by decide +kernel)) c125
      · exact absurd (c6_of (vBeat (vNode A26.out) A27.out) (by decide +kernel)) c124
     · exact absurd (c6_of (vDone (vNode A24.out) A25.out) (by decide +kernel)) c123
    · exact absurd (c6_of (vDone (vNode A22.out) A23.out) (by decide +kernel)) c122
   case rest =>
    clear HC36
    try clear c1
    try clear c2
    try clear p2
    try clear c12
    try clear c13
    try clear c14
    try clear c15
    try clear c16
    try clear c17
    try clear c18
    try clear c19
    try clear c20
    try clear c21
    try clear c22
    try clear c23
    try clear c24
    try clear c122
    try clear c122b0
    try clear c122b1
    try clear c123
    try clear c123b0
    try clear c123b1
    try clear c124
    try clear c124b0
    try clear c124b1
    try clear c125
    try clear c125b0
    try clear c125b1
    try clear c126
    try clear c126b0
    try clear c126b1
    try clear c127
    try clear c127b0
    try clear c127b1
    try clear c128
    try clear c128b0
    try clear c128b1
    try clear c129
    try clear c129b0
    try clear c129b1
    try clear c130
    try clear c130b0
    try clear c130b1
    try clear c131
    try clear c131b0
    try clear c131b1
    try clear c132
    try clear c133
    try clear c134
    try clear c135
    try clear c136
    try clear c137
    try clear c138
    try clear c139
    try clear c141
    try clear c142
    try clear c143
    try clear c144
    try clear c145
    try clear c146
    try clear c147
    try clear c149
    try clear c150
    try clear c151
    try clear c152
    try clear c153
    try clear c154
    try clear c156
    try clear c157
    try clear c158
    try clear c159
    try clear c160
    try clear c161
    try clear c162
    try clear c163
    try clear c165
    try clear c166
    try clear c167
    try clear c168
    try clear c169
    try clear c170
    try clear c171
    try clear c173
    try clear c174
    try clear c175
    try clear c176
    try clear c177
    try clear c178
    try clear c179
    try clear c180
    try clear c182
    try clear c183
    try clear c184
    try clear c185
    try clear c186
    try clear c187
    try clear c188
    try clear c190
    try clear c191
    try clear c192
    try clear c193
    try clear c194
    try clear c195
    try clear c196
    try clear c197
    try clear c199
    try clear c200
    try clear c201
    try clear c202
    try clear c203
    try clear c204
    try clear c205
    try clear c207
    try clear c208
    try clear c209
    try clear c210
    try clear c211
    try clear c212
    try clear c213
    try clear c214
    try clear c216
    try clear c217
    try clear c218
    try clear c219
    try clear c220
    try clear c221
    try clear c222
    try clear c224
    try clear c225
    try clear c226
    try clear c227
    try clear c228
    try clear c229
    try clear c230
    try clear c231
    try clear c233
    try clear c234
    try clear c235
    try clear c236
    try clear c237
    try clear c238
    try clear c239
    try clear c240
    try clear c242
    try clear c243
    try clear c244
    try clear c245
    try clear c246
    try clear c247
    try clear c248
    try clear c249
    try clear hcz140_0
    try clear hcz140_1
    try clear hcz140_2
    try clear hcz140_3
    try clear hcz140_4
    try clear hcz148_0
    try clear hcz148_1
    try clear hcz148_2
    try clear hcz148_3
    try clear hcz148_4
    try clear hcz155_0
    try clear hcz155_1
    try clear hcz155_2
    try clear hcz155_3
    try clear hcz155_4
    try clear hcz164_0
    try clear hcz164_1
    try clear hcz164_2
    try clear hcz164_3
    try clear hcz164_4
    try clear hcz172_0
    try clear hcz172_1
    try clear hcz172_2
    try clear hcz172_3
    try clear hcz172_4
    try clear hcz181_0
    try clear hcz181_1
    try clear hcz181_2
    try clear hcz181_3
    try clear hcz181_4
    try clear hcz189_0
    try clear hcz189_1
    try clear hcz189_2
    try clear hcz189_3
    try clear hcz189_4
    try clear hcz198_0
    try clear hcz198_1
    try clear hcz198_2
    try clear hcz198_3
    try clear hcz198_4
    try clear hcz206_0
    try clear hcz206_1
    try clear hcz206_2
    try clear hcz206_3
    try clear hcz206_4
    try clear hcz215_0
    try clear hcz215_1
    try clear hcz215_2
    try clear hcz215_3
    try clear hcz215_4
    try clear hcz223_0
    try clear hcz223_1
    try clear hcz223_2
    try clear hcz223_3
    try clear hcz223_4
    try clear hcz232_0
    try clear hcz232_1
    try clear hcz232_2
    try clear hcz232_3
    try clear hcz232_4
    try clear hcz241_0
    try clear hcz241_1
    try clear hcz241_2
    try clear hcz241_3
    try clear hcz241_4
    try clear hcz250_0
    try clear hcz250_1
    try clear hcz250_2
    try clear hcz250_3
    try clear hcz250_4
    try clear hfz140_0
    try clear hfz140_1
    try clear hfz140_2
    try clear hfz140_3
    try clear hfz140_4
    try clear hfz148_0
    try clear hfz148_1
    try clear hfz148_2
    try clear hfz148_3
    try clear hfz148_4
    try clear hfz155_0
    try clear hfz155_1
    try clear hfz155_2
    try clear hfz155_3
    try clear hfz155_4
    try clear hfz164_0
    try clear hfz164_1
    try clear hfz164_2
    try clear hfz164_3
    try clear hfz164_4
    try clear hfz172_0
    try clear hfz172_1
    try clear hfz172_2
    try clear hfz172_3
    try clear hfz172_4
    try clear hfz181_0
    try clear hfz181_1
    try clear hfz181_2
    try clear hfz181_3
    try clear hfz181_4
    try clear hfz189_0
    try clear hfz189_1
    try clear hfz189_2
    try clear hfz189_3
    try clear hfz189_4
    try clear hfz198_0
    try clear hfz198_1
    try clear hfz198_2
    try clear hfz198_3
    try clear hfz198_4
    try clear hfz206_0
    try clear hfz206_1
    try clear hfz206_2
    try clear hfz206_3
    try clear hfz206_4
    try clear hfz215_0
    try clear hfz215_1
    try clear hfz215_2
    try clear hfz215_3
    try clear hfz215_4
    try clear hfz223_0
    try clear hfz223_1
    try clear hfz223_2
    try clear hfz223_3
    try clear hfz223_4
    try clear hfz232_0
    try clear hfz232_1
    try clear hfz232_2
    try clear hfz232_3
    try clear hfz232_4
    try clear hfz241_0
    try clear hfz241_1
    try clear hfz241_2
    try clear hfz241_3
    try clear hfz241_4
    try clear hfz250_0
    try clear hfz250_1
    try clear hfz250_2
    try clear hfz250_3
    try clear hfz250_4
    obtain ⟨kq, x24_35, rfl, HX_x24_35, HA, HJ35, BK314, BK315, BK327, BK339, BK351, BK363, BK375, BK387, BK399, HB⟩ := hcut
    cases kq with
    | zero => exact absurd HA.out (by simp [millhandlaw24_TaskNames.j1])
    | succ kj35 =>
     have H := HA.out
     clear HA
     simp only [millhandlaw24_TaskNames.j1] at H
     replace H := Option.bind_eq_some_iff.mp H
     obtain ⟨⟨t400, t403, t404⟩, A2510, H⟩ := H
     try dsimp only at H
     have A251 := Aside0.mk A2510
     clear A2510
     replace H := Option.bind_eq_some_iff.mp H
     obtain ⟨⟨t405, t406, t407, t408, t409, t410⟩, A2520, H⟩ := H
     try dsimp only at H
     have A252 := Aside0.mk A2520
     clear A2520
     replace H := Option.bind_eq_some_iff.mp H
     obtain ⟨⟨t412, t415, t416⟩, A2530, H⟩ := H
     try dsimp only at H
     have A253 := Aside0.mk A2530
     clear A2530
     replace H := Option.bind_eq_some_iff.mp H
     obtain ⟨⟨t417, t418⟩, A2540, H⟩ := H
     try dsimp only at H
     have A254 := Aside0.mk A2540
     clear A2540
     replace H := Option.bind_eq_some_iff.mp H
     obtain ⟨t419, A2550, H⟩ := H
     try dsimp only at H
     have A255 := Aside0.mk A2550
     clear A2550
     by_cases c256 : t419 = true
     ·
      subst c256
      have H1 : (if x7_6 = true then (if x24_35 = true then (if t410 = 240 then (if t418 = 2 then ((task_Check.f kj35 ([] : List Int) 0 0 0 0 0 0 0).bind fun t420 => (some (t420 == 8))) else (some false)) else (some false)) else (some false)) else (some false)) = some r := by rw [if_pos rfl] at H; exact H
      clear H
      have H := H1
      clear H1
      by_cases c257 : x7_6 = true
      ·
       subst c257
       have H1 : (if x24_35 = true then (if t410 = 240 then (if t418 = 2 then ((task_Check.f kj35 ([] : List Int) 0 0 0 0 0 0 0).bind fun t420 => (some (t420 == 8))) else (some false)) else (some false)) else (some false)) = some r := by rw [if_pos rfl] at H; exact H
       clear H
       have H := H1
       clear H1
       by_cases c258 : x24_35 = true
       ·
        subst c258
        have H1 : (if t410 = 240 then (if t418 = 2 then ((task_Check.f kj35 ([] : List Int) 0 0 0 0 0 0 0).bind fun t420 => (some (t420 == 8))) else (some false)) else (some false)) = some r := by rw [if_pos rfl] at H; exact H
        clear H
        have H := H1
        clear H1
        by_cases c259 : t410 = 240
        ·
         rw [if_pos c259] at H
         have c259b0 : (t410 == 240) = true := beq_iff_eq.mpr c259
         have c259b1 : (t410 != 240) = false := bne_eq_false_iff_eq.mpr c259
         clear c259
         by_cases c260 : t418 = 2
         ·
          rw [if_pos c260] at H
          have c260b0 : (t418 == 2) = true := beq_iff_eq.mpr c260
          have c260b1 : (t418 != 2) = false := bne_eq_false_iff_eq.mpr c260
          clear c260
          replace H := Option.bind_eq_some_iff.mp H
          obtain ⟨t420, A2610, H⟩ := H
          replace H : (some (t420 == 8)) = some r := H
          have A261 := Aside0.mk A2610
          clear A2610
          obtain rfl := Option.some.inj H
          go_wp2_with (first | ((with_reducible refine gate_callee (f := 11) rfl ?_); refine goesL_ (some 157) rfl rfl Try.func11 (by kernel_rfl) rfl #[] rfl (by (try simp only [List.map_toArray, List.map_cons, List.map_nil]); first | done | rfl | (simp only [List.length_drop, List.length_take]; rfl)) ?_; (with_reducible refine (millhandlaw24_node.calls  t400 t403 t404 _ A251.out).mono ?_); rintro e w262 ⟨v401, rfl, ho0, hb⟩; refine ⟨_, rfl, ?_⟩; have HO402 := Aside0.mk (Kd.R_lower ho0 (below_size (hB_ HB.out))); replace BK314 := bs_ BK314 hb; replace BK315 := bs_ BK315 hb; replace BK327 := bs_ BK327 hb; replace BK339 := bs_ BK339 hb; replace BK351 := bs_ BK351 hb; replace BK363 := bs_ BK363 hb; replace BK375 := bs_ BK375 hb; replace BK387 := bs_ BK387 hb; replace BK399 := bs_ BK399 hb; replace HB := Aside0.mk (below_step (hB_ HB.out) hb); (try clear hb); (try clear hb2); (try clear hk); (try clear hi); (try clear ho0); obtain ⟨Ao263, co263, eo263⟩ := Kd.R_slice HO402.out; subst eo263) | ((with_reducible refine gate_callee (f := 16) rfl ?_); refine goesL_ (some 159) rfl rfl Try.func16 (by kernel_rfl) rfl #[.agg #[.slice Ao263 t400.length co263, .int .i64 t403, .int .i64 t404], .agg #[.int .u8 4, .int .i64 1, .int .i64 0, .int .i64 0, .int .i64 0]] rfl (by (try simp only [List.map_toArray, List.map_cons, List.map_nil]); first | done | rfl | (simp only [List.length_drop, List.length_take]; rfl)) ?_; (with_reducible refine (task_Drop.calls kj35 _ _ t400 t403 t404 4 1 0 0 0 t405 t406 t407 t408 t409 t410 _ ?side1 ?side2 A252.out).mono ?_); (case side1 => repeat (first | exact (Kd.R_reads' HO402.out).2.2 | (with_reducible refine Kd.C_alloc ?_ _) | (with_reducible refine Kd.C_drewN ?_ _) | (with_reducible refine Kd.C_drew ?_))); (case side2 => exact (Kd.R_reads' HO402.out).2.1); rintro e w264 ⟨rfl, hb⟩; refine ⟨_, rfl, ?_⟩; replace HO402 := Aside0.mk (Kd.R_below (rr_ HO402.out) hb); replace BK314 := bs_ BK314 hb; replace BK315 := bs_ BK315 hb; replace BK327 := bs_ BK327 hb; replace BK339 := bs_ BK339 hb; replace BK351 := bs_ BK351 hb; replace BK363 := bs_ BK363 hb; replace BK375 := bs_ BK375 hb; replace BK387 := bs_ BK387 hb; replace BK399 := bs_ BK399 hb; replace HB := Aside0.mk (below_step (hB_ HB.out) hb); (try clear hb); (try clear hb2); (try clear hk); (try clear hi)) | ((with_reducible refine gate_dst (N := 25) rfl ?_); refine box_event ?hg (N := 25) ?hd (cs := #[.int .u8 0, .int .i64 0, .int .i64 0, .int .i64 0, .int .i64 0]) (t := 31) ?hr ?_; (case hd => rfl); (case hg => rfl); (case hr => first | (go_simp; done) | (go_simp; rfl)); intro gb411 hg w265 hbox hb; replace HO402 := Aside0.mk (Kd.R_below (rr_ HO402.out) hb); have BK411 := Aside0.mk (hbox); have GW411 := bz_ (hB_ HB.out) hg; have GE411 := bz_ (hB_ HB.out) hg; replace HB := Aside0.mk (below_step (hB_ HB.out) hb); have NB314_411 := bn_ BK314 hg; have NB411_314 := bm_ BK314 hg; replace BK314 := bs_ BK314 hb; have NB315_411 := bn_ BK315 hg; have NB411_315 := bm_ BK315 hg; replace BK315 := bs_ BK315 hb; have NB327_411 := bn_ BK327 hg; have NB411_327 := bm_ BK327 hg; replace BK327 := bs_ BK327 hb; have NB339_411 := bn_ BK339 hg; have NB411_339 := bm_ BK339 hg; replace BK339 := bs_ BK339 hb; have NB351_411 := bn_ BK351 hg; have NB411_351 := bm_ BK351 hg; replace BK351 := bs_ BK351 hb; have NB363_411 := bn_ BK363 hg; have NB411_363 := bm_ BK363 hg; replace BK363 := bs_ BK363 hb; have NB375_411 := bn_ BK375 hg; have NB411_375 := bm_ BK375 hg; replace BK375 := bs_ BK375 hb; have NB387_411 := bn_ BK387 hg; have NB411_387 := bm_ BK387 hg; replace BK387 := bs_ BK387 hb; have NB399_411 := bn_ BK399 hg; have NB411_399 := bm_ BK399 hg; replace BK399 := bs_ BK399 hb; clear hb hbox hg; have hcz275_0 : w265.cell? ⟨gb411, 0, none⟩ = some (.int .u8 0) := ck_ BK411 0; have hcz275_1 : w265.cell? ⟨gb411, 1, none⟩ = some (.int .i64 0) := ck_ BK411 1; have hcz275_2 : w265.cell? ⟨gb411, 2, none⟩ = some (.int .i64 0) := ck_ BK411 2; have hcz275_3 : w265.cell? ⟨gb411, 3, none⟩ = some (.int .i64 0) := ck_ BK411 3; have hcz275_4 : w265.cell? ⟨gb411, 4, none⟩ = some (.int .i64 0) := ck_ BK411 4; have hfz275_0 := blk_frozen BK411.out 0; have hfz275_1 := blk_frozen BK411.out 1; have hfz275_2 := blk_frozen BK411.out 2; have hfz275_3 := blk_frozen BK411.out 3; have hfz275_4 := blk_frozen BK411.out 4) | ((with_reducible refine gate_callee (f := 11) rfl ?_); refine goesL_ (some 163) rfl rfl Try.func11 (by kernel_rfl) rfl #[] rfl (by (try simp only [List.map_toArray, List.map_cons, List.map_nil]); first | done | rfl | (simp only [List.length_drop, List.length_take]; rfl)) ?_; (with_reducible refine (millhandlaw24_node.calls  t412 t415 t416 _ A253.out).mono ?_); rintro e w276 ⟨v413, rfl, ho0, hb⟩; refine ⟨_, rfl, ?_⟩; have HO414 := Aside0.mk (Kd.R_lower (Kd.R_new' ho0 (Kd.R_lt (rr_ (Kd.R_mono (Kd.R_far (p := ⟨gb411, 4, none⟩) (Kd.R_far (p := ⟨gb411, 3, none⟩) (Kd.R_far (p := ⟨gb411, 2, none⟩) (Kd.R_far (p := ⟨gb411, 1, none⟩) (Kd.R_far (p := ⟨gb411, 0, none⟩) (Kd.R_types HO402.out BK411.out (by decide)) (fun _ hk => hk.2) (.int .u8 t405)) (fun _ hk => hk.2) (.int .i64 t406)) (fun _ hk => hk.2) (.int .i64 t407)) (fun _ hk => hk.2) (.int .i64 t408)) (fun _ hk => hk.2) (.int .i64 t409)) (fun _ h_ => h_.1))))) (below_size (hG_ HB.out GE411.out))); replace HO402 := Aside0.mk (Kd.R_elder' (rr_ (Kd.R_mono (Kd.R_far (p := ⟨gb411, 4, none⟩) (Kd.R_far (p := ⟨gb411, 3, none⟩) (Kd.R_far (p := ⟨gb411, 2, none⟩) (Kd.R_far (p := ⟨gb411, 1, none⟩) (Kd.R_far (p := ⟨gb411, 0, none⟩) (Kd.R_types HO402.out BK411.out (by decide)) (fun _ hk => hk.2) (.int .u8 t405)) (fun _ hk => hk.2) (.int .i64 t406)) (fun _ hk => hk.2) (.int .i64 t407)) (fun _ hk => hk.2) (.int .i64 t408)) (fun _ hk => hk.2) (.int .i64 t409)) (fun _ h_ => h_.1))) (Kd.R_base ho0) hb); replace BK314 := bF_ BK314 NB314_411.out hb; replace BK315 := bF_ BK315 NB315_411.out hb; replace BK327 := bF_ BK327 NB327_411.out hb; replace BK339 := bF_ BK339 NB339_411.out hb; replace BK351 := bF_ BK351 NB351_411.out hb; replace BK363 := bF_ BK363 NB363_411.out hb; replace BK375 := bF_ BK375 NB375_411.out hb; replace BK387 := bF_ BK387 NB387_411.out hb; replace BK399 := bF_ BK399 NB399_411.out hb; replace BK411 := Aside0.mk (blk_below (g := gb411) (o := .cells #[.int .u8 t405, .int .i64 t406, .int .i64 t407, .int .i64 t408, .int .i64 t409] 31 (0, 0)) (by (with_reducible repeat (first | refine blk_drewN ?_ _ | refine blk_drew ?_ | refine blk_alloc ?_ _)); refine blk_put (cs := #[.int .u8 t405, .int .i64 t406, .int .i64 t407, .int .i64 t408, .int .i64 0]) ?_ 4 _ rfl; (with_reducible repeat (first | refine blk_drewN ?_ _ | refine blk_drew ?_ | refine blk_alloc ?_ _)); refine blk_put (cs := #[.int .u8 t405, .int .i64 t406, .int .i64 t407, .int .i64 0, .int .i64 0]) ?_ 3 _ rfl; (with_reducible repeat (first | refine blk_drewN ?_ _ | refine blk_drew ?_ | refine blk_alloc ?_ _)); refine blk_put (cs := #[.int .u8 t405, .int .i64 t406, .int .i64 0, .int .i64 0, .int .i64 0]) ?_ 2 _ rfl; (with_reducible repeat (first | refine blk_drewN ?_ _ | refine blk_drew ?_ | refine blk_alloc ?_ _)); refine blk_put (cs := #[.int .u8 t405, .int .i64 0, .int .i64 0, .int .i64 0, .int .i64 0]) ?_ 1 _ rfl; (with_reducible repeat (first | refine blk_drewN ?_ _ | refine blk_drew ?_ | refine blk_alloc ?_ _)); refine blk_put (cs := #[.int .u8 0, .int .i64 0, .int .i64 0, .int .i64 0, .int .i64 0]) ?_ 0 _ rfl; (with_reducible repeat (first | refine blk_drewN ?_ _ | refine blk_drew ?_ | refine blk_alloc ?_ _)); exact BK411.out) hb); replace HB := Aside0.mk (below_step (hG_ HB.out GE411.out) hb); (try clear hb); (try clear hb2); (try clear hk); (try clear hi); (try clear ho0); obtain ⟨Ao277, co277, eo277⟩ := Kd.R_slice HO414.out; subst eo277; (try clear hcz275_0 hcz275_1 hcz275_2 hcz275_3 hcz275_4 hfz275_0 hfz275_1 hfz275_2 hfz275_3 hfz275_4)) | ((with_reducible refine gate_callee (f := 8) rfl ?_); refine goesL_ (some 164) rfl rfl Try.func8 (by kernel_rfl) rfl #[.agg #[.slice Ao277 t412.length co277, .int .i64 t415, .int .i64 t416], .int .i64 0] rfl (by (try simp only [List.map_toArray, List.map_cons, List.map_nil]); first | done | rfl | (simp only [List.length_drop, List.length_take]; rfl)) ?_; (with_reducible refine (task_Pause.calls kj35 _ _ t412 t415 t416 0 t417 t418 _ ?side1 ?side2 A254.out).mono ?_); (case side1 => repeat (first | exact (Kd.R_reads' HO414.out).2.2 | (with_reducible refine Kd.C_alloc ?_ _) | (with_reducible refine Kd.C_drewN ?_ _) | (with_reducible refine Kd.C_drew ?_))); (case side2 => exact (Kd.R_reads' HO414.out).2.1); rintro e w278 ⟨rfl, hb⟩; refine ⟨_, rfl, ?_⟩; replace HO402 := Aside0.mk (Kd.R_below (rr_ HO402.out) hb); replace HO414 := Aside0.mk (Kd.R_below (rr_ HO414.out) hb); replace BK314 := bs_ BK314 hb; replace BK315 := bs_ BK315 hb; replace BK327 := bs_ BK327 hb; replace BK339 := bs_ BK339 hb; replace BK351 := bs_ BK351 hb; replace BK363 := bs_ BK363 hb; replace BK375 := bs_ BK375 hb; replace BK387 := bs_ BK387 hb; replace BK399 := bs_ BK399 hb; replace BK411 := bs_ BK411 hb; replace HB := Aside0.mk (below_step (hB_ HB.out) hb); (try clear hb); (try clear hb2); (try clear hk); (try clear hi); (try clear hcz275_0 hcz275_1 hcz275_2 hcz275_3 hcz275_4 hfz275_0 hfz275_1 hfz275_2 hfz275_3 hfz275_4)) | (go_at_call 7; (with_reducible refine (millhandlaw24_alive.calls kj35  true _ A255.out).mono ?_); rintro e w279 ⟨rfl, hb⟩; replace HO402 := Aside0.mk (Kd.R_below (rr_ HO402.out) hb); replace HO414 := Aside0.mk (Kd.R_below (rr_ HO414.out) hb); replace BK314 := bs_ BK314 hb; replace BK315 := bs_ BK315 hb; replace BK327 := bs_ BK327 hb; replace BK339 := bs_ BK339 hb; replace BK351 := bs_ BK351 hb; replace BK363 := bs_ BK363 hb; replace BK375 := bs_ BK375 hb; replace BK387 := bs_ BK387 hb; replace BK399 := bs_ BK399 hb; replace BK411 := bs_ BK411 hb; replace HB := Aside0.mk (below_step (hB_ HB.out) hb); (try clear hb); (try clear hb2); (try clear hk); (try clear hi); (try clear hcz275_0 hcz275_1 hcz275_2 hcz275_3 hcz275_4 hfz275_0 hfz275_1 hfz275_2 hfz275_3 hfz275_4)) | (go_at_call 9; (refine (task_Check.calls kj35 _ _ ([] : List Int) 0 0 0 0 0 0 0 t420 _ ?side1 ?side2 A261.out).mono ?_); (case side1 => exact Kd.C_nil _ _); (case side2 => exact Nat.le_refl _); rintro e w280 ⟨rfl, hb⟩; replace HO402 := Aside0.mk (Kd.R_below (rr_ HO402.out) hb); replace HO414 := Aside0.mk (Kd.R_below (rr_ HO414.out) hb); replace BK314 := bs_ BK314 hb; replace BK315 := bs_ BK315 hb; replace BK327 := bs_ BK327 hb; replace BK339 := bs_ BK339 hb; replace BK351 := bs_ BK351 hb; replace BK363 := bs_ BK363 hb; replace BK375 := bs_ BK375 hb; replace BK387 := bs_ BK387 hb; replace BK399 := bs_ BK399 hb; replace BK411 := bs_ BK411 hb; replace HB := Aside0.mk (below_step (hB_ HB.out) hb); (try clear hb); (try clear hb2); (try clear hk); (try clear hi); (try clear hcz275_0 hcz275_1 hcz275_2 hcz275_3 hcz275_4 hfz275_0 hfz275_1 hfz275_2 hfz275_3 hfz275_4)))
          go_ret
          exact ⟨by first | rfl | (simp [errW_none, errW_some] <;> rfl) | (simp [*, errW_none, errW_some] <;> rfl) | exact ret_ie _ | (simp [*, errW_none, errW_some, bne]; done), by repeat (first | (with_reducible first | exact HB.out | apply below_alloc | apply pw_below_drewN | apply below_drew1 | refine below_set ?_ GE314.out | refine below_set ?_ GE315.out | refine below_set ?_ GE327.out | refine below_set ?_ GE339.out | refine below_set ?_ GE351.out | refine below_set ?_ GE363.out | refine below_set ?_ GE375.out | refine below_set ?_ GE387.out | refine below_set ?_ GE399.out | refine below_set ?_ GE411.out) | exact HB.out)⟩
         · exact absurd (p2_of (vPause (vNode A253.out) A254.out) (by decide +kernel)) c260
        · exact absurd (c6_of (vDrop (vNode A251.out) A252.out) (by decide +kernel)) c259
       · exact absurd (HX_x24_35.out) c258
      · exact absurd (HX_x7_6.out) c257
     · exact absurd (alive_true _ _ A255.out) c256
end Go.Proofs.Ytbgfjhnbmfgccaa.R

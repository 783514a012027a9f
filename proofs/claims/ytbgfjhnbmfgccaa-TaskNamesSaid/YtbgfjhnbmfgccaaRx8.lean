/- Contracts of Go functions and what they come to, over the translation of this seat: made by a program of this session (print2.py). -/
import Derived.Test.YtbgfjhnbmfgccaaRx0
import Derived.Test.YtbgfjhnbmfgccaaRx1
import Derived.Test.YtbgfjhnbmfgccaaRx2
import Derived.Test.YtbgfjhnbmfgccaaRx4
import Derived.Test.YtbgfjhnbmfgccaaRx5
import Derived.Test.YtbgfjhnbmfgccaaRx7
namespace Go.Proofs.Ytbgfjhnbmfgccaa.R
open Go.RowKit Go.Proofs.Ytbgfjhnbmfgccaa.Co Go.Proofs.Ytbgfjhnbmfgccaa.Ret Go.Proofs.Ytbgfjhnbmfgccaa.Plain Go.Proofs.YtbgfjhnbmfgccaaW.PrintWords Go.Proofs.YtbgfjhnbmfgccaaW.PrintLast Go.Proofs.YtbgfjhnbmfgccaaW.PrintMore
attribute [local go_sem] max2_int min2_int max_two min_two max_three min_three max_four min_four   -- for this text's walks alone
set_option linter.unusedVariables false
set_option linter.unusedSimpArgs false

attribute [local go_sem high] eqA31
/-! ### millhandlaw24_alive: function 7 -/
def millhandlaw24_alive.f (k : Nat)  : Option (Bool) := (millhandlaw24_node.f).bind fun bt152 => ((task_Open.f k bt152.1 bt152.2.1 bt152.2.2 0 0 0 0 0 7).bind fun bt157 => ((millhandlaw24_node.f).bind fun bt164 => ((task_Lease.f k bt164.1 bt164.2.1 bt164.2.2 bt157.1 bt157.2.1 bt157.2.2.1 bt157.2.2.2.1 bt157.2.2.2.2.1 4 30).bind fun bt169 => ((millhandlaw24_node.f).bind fun bt176 => ((task_Fail.f k bt176.1 bt176.2.1 bt176.2.2 bt169.1 bt169.2.1 bt169.2.2.1 bt169.2.2.2.1 bt169.2.2.2.2.1 4 12).bind fun bt181 => (if bt157.2.2.2.2.2 = 0 then (if bt169.2.2.2.2.2 = 0 then (if bt181.2.2.2.2.2 = 0 then (if (bt157.1 == 1 && (bt157.2.1 == 0 && (bt157.2.2.1 == 0 && (bt157.2.2.2.1 == 0 && (bt157.2.2.2.2.1 == 7))))) = true then (if (bt169.1 == 2 && (bt169.2.1 == 1 && (bt169.2.2.1 == 30 && (bt169.2.2.2.1 == 4 && (bt169.2.2.2.2.1 == 0))))) = true then (some (bt181.1 == 3 && (bt181.2.1 == 1 && (bt181.2.2.1 == 17 && (bt181.2.2.2.1 == 0 && (bt181.2.2.2.2.1 == 0)))))) else (some false)) else (some false)) else (some false)) else (some false)) else (some false)))))))
theorem millhandlaw24_alive.mono : ∀ k, LeO (millhandlaw24_alive.f k ) (millhandlaw24_alive.f (k + 1) ) := by
 intro  k
 unfold millhandlaw24_alive.f
 repeat' first
   | (with_reducible exact task_Fail.mono _ _ _ _ _ _ _ _ _ _ _)
   | (with_reducible exact task_Lease.mono _ _ _ _ _ _ _ _ _ _ _)
   | (with_reducible exact task_Open.mono _ _ _ _ _ _ _ _ _ _)
   | (with_reducible exact LeO.refl _)
   | (with_reducible exact LeO.none _)
   | (with_reducible refine LeO.ite ?_ ?_)
   | (with_reducible refine LeO.bind ?_ (fun _ => ?_))
   | exact task_Fail.mono _ _ _ _ _ _ _ _ _ _ _
   | exact task_Lease.mono _ _ _ _ _ _ _ _ _ _ _
   | exact task_Open.mono _ _ _ _ _ _ _ _ _ _
   | exact LeO.none _
   | refine LeO.ite ?_ ?_
   | refine LeO.bind ?_ (fun _ => ?_)
def millhandlaw24_alive.T2 : Bool × List (List Nat × List Nat) := (true, [([], []), ([], []), ([0, 1, 0], [0, 1]), ([2], [2]), ([3], [3]), ([3], [3]), ([], []), ([6, 4, 2, 0, 1, 2, 3, 4, 6], [4, 6]), ([5, 7, 0, 1, 2, 3, 4, 5, 6, 7], [5])])
def millhandlaw24_alive.B2 : List Nat := [0, 0, 3, 7, 15, 15, 0, 95, 255]
theorem millhandlaw24_alive.tab2 : rtab .any (opsOf Try.f7 2) = millhandlaw24_alive.T2 := by kernel_rfl
theorem millhandlaw24_alive.bits2 : waitsOk millhandlaw24_alive.T2.2 millhandlaw24_alive.B2 = true := by kernel_rfl
def millhandlaw24_alive.T3 : Bool × List (List Nat × List Nat) := (true, [([], []), ([], []), ([0, 1, 0], [0, 1]), ([2], [2]), ([3], [3]), ([3], [3]), ([], []), ([6, 4, 2, 0, 1, 2, 3, 4, 6], [4, 6]), ([5, 7, 0, 1, 2, 3, 4, 5, 6, 7], [5])])
def millhandlaw24_alive.B3 : List Nat := [0, 0, 3, 7, 15, 15, 0, 95, 255]
theorem millhandlaw24_alive.tab3 : rtab .any (opsOf Try.f7 3) = millhandlaw24_alive.T3 := by kernel_rfl
theorem millhandlaw24_alive.bits3 : waitsOk millhandlaw24_alive.T3.2 millhandlaw24_alive.B3 = true := by kernel_rfl
theorem alive_true (k : Nat) (r : Bool) (h : millhandlaw24_alive.f k = some r) : r = true := by
 have h1 := at_rounds millhandlaw24_alive.mono (show k ≤ k + 10 by omega) h
 have h2 : millhandlaw24_alive.f (k + 10) = some true := at_rounds millhandlaw24_alive.mono (show 10 ≤ k + 10 by omega) (by decide +kernel)
 exact Option.some.inj (h1.symm.trans h2)
set_option maxHeartbeats 8000000 in
set_option maxRecDepth 100000 in
theorem millhandlaw24_alive.calls (k : Nat)  (r : Bool) (w : World) (h : millhandlaw24_alive.f k  = some r) :
  Calls Try.prog 7 #[] w fun e w' => e = .returned (.bool r) ∧ Below w.heap.size w w' := by
 have hr : r = true := alive_true k r h
 have hu31 := Try.underlying31
 have HB := Aside0.mk (Below.refl w.heap.size w)
 have H : ((millhandlaw24_node.f).bind fun bt152 => ((task_Open.f k bt152.1 bt152.2.1 bt152.2.2 0 0 0 0 0 7).bind fun bt157 => ((millhandlaw24_node.f).bind fun bt164 => ((task_Lease.f k bt164.1 bt164.2.1 bt164.2.2 bt157.1 bt157.2.1 bt157.2.2.1 bt157.2.2.2.1 bt157.2.2.2.2.1 4 30).bind fun bt169 => ((millhandlaw24_node.f).bind fun bt176 => ((task_Fail.f k bt176.1 bt176.2.1 bt176.2.2 bt169.1 bt169.2.1 bt169.2.2.1 bt169.2.2.2.1 bt169.2.2.2.2.1 4 12).bind fun bt181 => (if bt157.2.2.2.2.2 = 0 then (if bt169.2.2.2.2.2 = 0 then (if bt181.2.2.2.2.2 = 0 then (if (bt157.1 == 1 && (bt157.2.1 == 0 && (bt157.2.2.1 == 0 && (bt157.2.2.2.1 == 0 && (bt157.2.2.2.2.1 == 7))))) = true then (if (bt169.1 == 2 && (bt169.2.1 == 1 && (bt169.2.2.1 == 30 && (bt169.2.2.2.1 == 4 && (bt169.2.2.2.2.1 == 0))))) = true then (some (bt181.1 == 3 && (bt181.2.1 == 1 && (bt181.2.2.1 == 17 && (bt181.2.2.2.1 == 0 && (bt181.2.2.2.2.1 == 0)))))) else (some false)) else (some false)) else (some false)) else (some false)) else (some false)))))))) = some r := h
 clear h
 replace H := Option.bind_eq_some_iff.mp H
 obtain ⟨⟨t152, t155, t156⟩, A10, H⟩ := H
 replace H : ((task_Open.f k t152 t155 t156 0 0 0 0 0 7).bind fun bt157 => ((millhandlaw24_node.f).bind fun bt164 => ((task_Lease.f k bt164.1 bt164.2.1 bt164.2.2 bt157.1 bt157.2.1 bt157.2.2.1 bt157.2.2.2.1 bt157.2.2.2.2.1 4 30).bind fun bt169 => ((millhandlaw24_node.f).bind fun bt176 => ((task_Fail.f k bt176.1 bt176.2.1 bt176.2.2 bt169.1 bt169.2.1 bt169.2.2.1 bt169.2.2.2.1 bt169.2.2.2.2.1 4 12).bind fun bt181 => (if bt157.2.2.2.2.2 = 0 then (if bt169.2.2.2.2.2 = 0 then (if bt181.2.2.2.2.2 = 0 then (if (bt157.1 == 1 && (bt157.2.1 == 0 && (bt157.2.2.1 == 0 && (bt157.2.2.2.1 == 0 && (bt157.2.2.2.2.1 == 7))))) = true then (if (bt169.1 == 2 && (bt169.2.1 == 1 && (bt169.2.2.1 == 30 && (bt169.2.2.2.1 == 4 && (bt169.2.2.2.2.1 == 0))))) = true then (some (bt181.1 == 3 && (bt181.2.1 == 1 && (bt181.2.2.1 == 17 && (bt181.2.2.2.1 == 0 && (bt181.2.2.2.2.1 == 0)))))) else (some false)) else (some false)) else (some false)) else (some false)) else (some false))))))) = some r := H
 have A1 := Aside0.mk A10
 clear A10
 replace H := Option.bind_eq_some_iff.mp H
 obtain ⟨⟨t157, t158, t159, t160, t161, t162⟩, A20, H⟩ := H
 replace H : ((millhandlaw24_node.f).bind fun bt164 => ((task_Lease.f k bt164.1 bt164.2.1 bt164.2.2 t157 t158 t159 t160 t161 4 30).bind fun bt169 => ((millhandlaw24_node.f).bind fun bt176 => ((task_Fail.f k bt176.1 bt176.2.1 bt176.2.2 bt169.1 bt169.2.1 bt169.2.2.1 bt169.2.2.2.1 bt169.2.2.2.2.1 4 12).bind fun bt181 => (if t162 = 0 then (if bt169.2.2.2.2.2 = 0 then (if bt181.2.2.2.2.2 = 0 then (if (t157 == 1 && (t158 == 0 && (t159 == 0 && (t160 == 0 && (t161 == 7))))) = true then (if (bt169.1 == 2 && (bt169.2.1 == 1 && (bt169.2.2.1 == 30 && (bt169.2.2.2.1 == 4 && (bt169.2.2.2.2.1 == 0))))) = true then (some (bt181.1 == 3 && (bt181.2.1 == 1 && (bt181.2.2.1 == 17 && (bt181.2.2.2.1 == 0 && (bt181.2.2.2.2.1 == 0)))))) else (some false)) else (some false)) else (some false)) else (some false)) else (some false)))))) = some r := H
 have A2 := Aside0.mk A20
 clear A20
 replace H := Option.bind_eq_some_iff.mp H
 obtain ⟨⟨t164, t167, t168⟩, A30, H⟩ := H
 replace H : ((task_Lease.f k t164 t167 t168 t157 t158 t159 t160 t161 4 30).bind fun bt169 => ((millhandlaw24_node.f).bind fun bt176 => ((task_Fail.f k bt176.1 bt176.2.1 bt176.2.2 bt169.1 bt169.2.1 bt169.2.2.1 bt169.2.2.2.1 bt169.2.2.2.2.1 4 12).bind fun bt181 => (if t162 = 0 then (if bt169.2.2.2.2.2 = 0 then (if bt181.2.2.2.2.2 = 0 then (if (t157 == 1 && (t158 == 0 && (t159 == 0 && (t160 == 0 && (t161 == 7))))) = true then (if (bt169.1 == 2 && (bt169.2.1 == 1 && (bt169.2.2.1 == 30 && (bt169.2.2.2.1 == 4 && (bt169.2.2.2.2.1 == 0))))) = true then (some (bt181.1 == 3 && (bt181.2.1 == 1 && (bt181.2.2.1 == 17 && (bt181.2.2.2.1 == 0 && (bt181.2.2.2.2.1 == 0)))))) else (some false)) else (some false)) else (some false)) else (some false)) else (some false))))) = some r := H
 have A3 := Aside0.mk A30
 clear A30
 replace H := Option.bind_eq_some_iff.mp H
 obtain ⟨⟨t169, t170, t171, t172, t173, t174⟩, A40, H⟩ := H
 replace H : ((millhandlaw24_node.f).bind fun bt176 => ((task_Fail.f k bt176.1 bt176.2.1 bt176.2.2 t169 t170 t171 t172 t173 4 12).bind fun bt181 => (if t162 = 0 then (if t174 = 0 then (if bt181.2.2.2.2.2 = 0 then (if (t157 == 1 && (t158 == 0 && (t159 == 0 && (t160 == 0 && (t161 == 7))))) = true then (if (t169 == 2 && (t170 == 1 && (t171 == 30 && (t172 == 4 && (t173 == 0))))) = true then (some (bt181.1 == 3 && (bt181.2.1 == 1 && (bt181.2.2.1 == 17 && (bt181.2.2.2.1 == 0 && (bt181.2.2.2.2.1 == 0)))))) else (some false)) else (some false)) else (some false)) else (some false)) else (some false)))) = some r := H
 have A4 := Aside0.mk A40
 clear A40
 replace H := Option.bind_eq_some_iff.mp H
 obtain ⟨⟨t176, t179, t180⟩, A50, H⟩ := H
 replace H : ((task_Fail.f k t176 t179 t180 t169 t170 t171 t172 t173 4 12).bind fun bt181 => (if t162 = 0 then (if t174 = 0 then (if bt181.2.2.2.2.2 = 0 then (if (t157 == 1 && (t158 == 0 && (t159 == 0 && (t160 == 0 && (t161 == 7))))) = true then (if (t169 == 2 && (t170 == 1 && (t171 == 30 && (t172 == 4 && (t173 == 0))))) = true then (some (bt181.1 == 3 && (bt181.2.1 == 1 && (bt181.2.2.1 == 17 && (bt181.2.2.2.1 == 0 && (bt181.2.2.2.2.1 == 0)))))) else (some false)) else (some false)) else (some false)) else (some false)) else (some false))) = some r := H
 have A5 := Aside0.mk A50
 clear A50
 replace H := Option.bind_eq_some_iff.mp H
 obtain ⟨⟨t181, t182, t183, t184, t185, t186⟩, A60, H⟩ := H
 replace H : (if t162 = 0 then (if t174 = 0 then (if t186 = 0 then (if (t157 == 1 && (t158 == 0 && (t159 == 0 && (t160 == 0 && (t161 == 7))))) = true then (if (t169 == 2 && (t170 == 1 && (t171 == 30 && (t172 == 4 && (t173 == 0))))) = true then (some (t181 == 3 && (t182 == 1 && (t183 == 17 && (t184 == 0 && (t185 == 0)))))) else (some false)) else (some false)) else (some false)) else (some false)) else (some false)) = some r := H
 have A6 := Aside0.mk A60
 clear A60
 by_cases c7 : t162 = 0
 ·
  rw [if_pos c7] at H
  have c7b0 : (t162 == 0) = true := beq_iff_eq.mpr c7
  have c7b1 : (t162 != 0) = false := bne_eq_false_iff_eq.mpr c7
  clear c7
  by_cases c8 : t174 = 0
  ·
   rw [if_pos c8] at H
   have c8b0 : (t174 == 0) = true := beq_iff_eq.mpr c8
   have c8b1 : (t174 != 0) = false := bne_eq_false_iff_eq.mpr c8
   clear c8
   by_cases c9 : t186 = 0
   ·
    rw [if_pos c9] at H
    have c9b0 : (t186 == 0) = true := beq_iff_eq.mpr c9
    have c9b1 : (t186 != 0) = false := bne_eq_false_iff_eq.mpr c9
    clear c9
    by_cases c10 : (t157 == 1 && (t158 == 0 && (t159 == 0 && (t160 == 0 && (t161 == 7))))) = true
    ·
     rw [if_pos c10] at H
     have c10b0 : (t157 == 1 && (t158 == 0 && (t159 == 0 && (t160 == 0 && (t161 == 7))))) = true := c10
     (try (have c10b1 : decide (t157 = 1 && (t158 == 0 && (t159 == 0 && (t160 == 0 && (t161 == 7))))) = true := by simpa using c10))
     (try (have c10b2 : (t157 == 1 && (t158 == 0 && (t159 == 0 && (t160 == 0 && (t161 == 7))))) = true := by simpa using c10))
     clear c10
     by_cases c11 : (t169 == 2 && (t170 == 1 && (t171 == 30 && (t172 == 4 && (t173 == 0))))) = true
     ·
      rw [if_pos c11] at H
      have c11b0 : (t169 == 2 && (t170 == 1 && (t171 == 30 && (t172 == 4 && (t173 == 0))))) = true := c11
      (try (have c11b1 : decide (t169 = 2 && (t170 == 1 && (t171 == 30 && (t172 == 4 && (t173 == 0))))) = true := by simpa using c11))
      (try (have c11b2 : (t169 == 2 && (t170 == 1 && (t171 == 30 && (t172 == 4 && (t173 == 0))))) = true := by simpa using c11))
      clear c11
      obtain rfl := Option.some.inj H
      go_enter Try.func7, Try.ntmps7
      try go_wp2_with (first | ((with_reducible refine gate_callee (f := 11) rfl ?_); refine goesL_ (some 8) rfl rfl Try.func11 (by kernel_rfl) rfl #[] rfl (by (try simp only [List.map_toArray, List.map_cons, List.map_nil]); first | done | rfl | (simp only [List.length_drop, List.length_take]; rfl)) ?_; (with_reducible refine (millhandlaw24_node.calls  t152 t155 t156 _ A1.out).mono ?_); rintro e w12 ⟨v153, rfl, ho0, hb⟩; refine ⟨_, rfl, ?_⟩; have n0_ := Aside0.mk (Kd.R_lower ho0 (below_size (by repeat (first | (with_reducible first | exact HB.out | apply below_alloc | apply pw_below_drewN | apply below_drew1) | exact HB.out)))); have n1_ := Aside0.mk (below_step (by repeat (first | (with_reducible first | exact HB.out | apply below_alloc | apply pw_below_drewN | apply below_drew1) | exact HB.out)) hb); clear HB; have HO154 := n0_; have HB := n1_; clear n0_ n1_; (try clear hb); (try clear hb2); (try clear hk); (try clear hi); (try clear ho0); obtain ⟨Ao13, co13, eo13⟩ := Kd.R_slice HO154.out; subst eo13) | ((with_reducible refine gate_callee (f := 17) rfl ?_); refine goesL_ (some 10) rfl rfl Try.func17 (by kernel_rfl) rfl #[.agg #[.slice Ao13 t152.length co13, .int .i64 t155, .int .i64 t156], .agg #[.int .u8 0, .int .i64 0, .int .i64 0, .int .i64 0, .int .i64 0], .int .i64 7] rfl (by (try simp only [List.map_toArray, List.map_cons, List.map_nil]); first | done | rfl | (simp only [List.length_drop, List.length_take]; rfl)) ?_; (with_reducible refine (task_Open.calls k _ _ t152 t155 t156 0 0 0 0 0 7 t157 t158 t159 t160 t161 t162 _ ?side1 ?side2 A2.out).mono ?_); (case side1 => repeat (first | exact (Kd.R_reads' HO154.out).2.2 | (with_reducible refine Kd.C_alloc ?_ _) | (with_reducible refine Kd.C_drewN ?_ _) | (with_reducible refine Kd.C_drew ?_))); (case side2 => exact (Kd.R_reads' HO154.out).2.1); rintro e w14 ⟨rfl, hb⟩; refine ⟨_, rfl, ?_⟩; have n0_ := Aside0.mk (Kd.R_below (by (with_reducible repeat (first | apply Kd.R_alloc | apply Kd.R_drewN | apply Kd.R_drew)); exact HO154.out) hb); have n1_ := Aside0.mk (below_step (by repeat (first | (with_reducible first | exact HB.out | apply below_alloc | apply pw_below_drewN | apply below_drew1) | exact HB.out)) hb); clear HO154; clear HB; have HO154 := n0_; have HB := n1_; clear n0_ n1_; (try clear hb); (try clear hb2); (try clear hk); (try clear hi)) | ((with_reducible refine gate_dst (N := 1) rfl ?_); refine box_event ?hg (N := 1) ?hd (cs := #[.int .u8 0, .int .i64 0, .int .i64 0, .int .i64 0, .int .i64 0]) (t := 31) ?hr ?_; (case hd => rfl); (case hg => rfl); (case hr => first | (go_simp; done) | (go_simp; rfl)); intro gb163 hg w15 hbox hb; have n0_ := Aside0.mk (Kd.R_below (by (with_reducible repeat (first | apply Kd.R_alloc | apply Kd.R_drewN | apply Kd.R_drew)); exact HO154.out) hb); have n1_ := Aside0.mk (below_step (by repeat (first | (with_reducible first | exact HB.out | apply below_alloc | apply pw_below_drewN | apply below_drew1) | exact HB.out)) hb); have n2_ := Aside0.mk (hbox); have n3_ := Aside0.mk ((by rw [hg]; exact (below_size (by repeat (first | (with_reducible first | exact HB.out | apply below_alloc | apply pw_below_drewN | apply below_drew1) | exact HB.out))) : w.heap.size ≤ gb163)); have n4_ := Aside0.mk ((by rw [hg]; exact (below_size (by repeat (first | (with_reducible first | exact HB.out | apply below_alloc | apply pw_below_drewN | apply below_drew1) | exact HB.out))) : w.heap.size ≤ gb163)); clear HO154; clear HB; have HO154 := n0_; have HB := n1_; have BK163 := n2_; have GW163 := n3_; have GE163 := n4_; clear n0_ n1_ n2_ n3_ n4_; clear hb hbox hg; have hcz16_0 : w15.cell? ⟨gb163, 0, none⟩ = some (.int .u8 0) := (blk_cell BK163.out 0).trans rfl; have hcz16_1 : w15.cell? ⟨gb163, 1, none⟩ = some (.int .i64 0) := (blk_cell BK163.out 1).trans rfl; have hcz16_2 : w15.cell? ⟨gb163, 2, none⟩ = some (.int .i64 0) := (blk_cell BK163.out 2).trans rfl; have hcz16_3 : w15.cell? ⟨gb163, 3, none⟩ = some (.int .i64 0) := (blk_cell BK163.out 3).trans rfl; have hcz16_4 : w15.cell? ⟨gb163, 4, none⟩ = some (.int .i64 0) := (blk_cell BK163.out 4).trans rfl; have hfz16_0 := blk_frozen BK163.out 0; have hfz16_1 := blk_frozen BK163.out 1; have hfz16_2 := blk_frozen BK163.out 2; have hfz16_3 := blk_frozen BK163.out 3; have hfz16_4 := blk_frozen BK163.out 4))
      have n0_ : Aside0 (Kd.R (Kd.int .i64) 3 (((((w15.setCell ⟨gb163, 0, none⟩ (.int .u8 t157)).setCell ⟨gb163, 1, none⟩ (.int .i64 t158)).setCell ⟨gb163, 2, none⟩ (.int .i64 t159)).setCell ⟨gb163, 3, none⟩ (.int .i64 t160)).setCell ⟨gb163, 4, none⟩ (.int .i64 t161)) w.heap.size (fun _ => True) (.slice Ao13 t152.length co13) t152) := ⟨by (with_reducible repeat (first | apply Kd.R_alloc | apply Kd.R_drewN | apply Kd.R_drew)); exact Kd.R_mono (Kd.R_far (p := ⟨gb163, 4, none⟩) (Kd.R_far (p := ⟨gb163, 3, none⟩) (Kd.R_far (p := ⟨gb163, 2, none⟩) (Kd.R_far (p := ⟨gb163, 1, none⟩) (Kd.R_far (p := ⟨gb163, 0, none⟩) (Kd.R_types HO154.out BK163.out (by decide)) (fun _ hk => hk.2) (.int .u8 t157)) (fun _ hk => hk.2) (.int .i64 t158)) (fun _ hk => hk.2) (.int .i64 t159)) (fun _ hk => hk.2) (.int .i64 t160)) (fun _ hk => hk.2) (.int .i64 t161)) (fun _ hk => trivial)⟩
      have n1_ : Aside0 ((((((w15.setCell ⟨gb163, 0, none⟩ (.int .u8 t157)).setCell ⟨gb163, 1, none⟩ (.int .i64 t158)).setCell ⟨gb163, 2, none⟩ (.int .i64 t159)).setCell ⟨gb163, 3, none⟩ (.int .i64 t160)).setCell ⟨gb163, 4, none⟩ (.int .i64 t161)).heap[gb163]? = some (.cells #[.int .u8 t157, .int .i64 t158, .int .i64 t159, .int .i64 t160, .int .i64 t161] 31 (0, 0))) := ⟨by (with_reducible repeat (first | refine blk_drewN ?_ _ | refine blk_drew ?_ | refine blk_alloc ?_ _)); refine blk_put (cs := #[.int .u8 t157, .int .i64 t158, .int .i64 t159, .int .i64 t160, .int .i64 0]) ?_ 4 _ rfl; (with_reducible repeat (first | refine blk_drewN ?_ _ | refine blk_drew ?_ | refine blk_alloc ?_ _)); refine blk_put (cs := #[.int .u8 t157, .int .i64 t158, .int .i64 t159, .int .i64 0, .int .i64 0]) ?_ 3 _ rfl; (with_reducible repeat (first | refine blk_drewN ?_ _ | refine blk_drew ?_ | refine blk_alloc ?_ _)); refine blk_put (cs := #[.int .u8 t157, .int .i64 t158, .int .i64 0, .int .i64 0, .int .i64 0]) ?_ 2 _ rfl; (with_reducible repeat (first | refine blk_drewN ?_ _ | refine blk_drew ?_ | refine blk_alloc ?_ _)); refine blk_put (cs := #[.int .u8 t157, .int .i64 0, .int .i64 0, .int .i64 0, .int .i64 0]) ?_ 1 _ rfl; (with_reducible repeat (first | refine blk_drewN ?_ _ | refine blk_drew ?_ | refine blk_alloc ?_ _)); refine blk_put (cs := #[.int .u8 0, .int .i64 0, .int .i64 0, .int .i64 0, .int .i64 0]) ?_ 0 _ rfl; (with_reducible repeat (first | refine blk_drewN ?_ _ | refine blk_drew ?_ | refine blk_alloc ?_ _)); exact BK163.out⟩
      have n2_ : Aside0 (Below w.heap.size w (((((w15.setCell ⟨gb163, 0, none⟩ (.int .u8 t157)).setCell ⟨gb163, 1, none⟩ (.int .i64 t158)).setCell ⟨gb163, 2, none⟩ (.int .i64 t159)).setCell ⟨gb163, 3, none⟩ (.int .i64 t160)).setCell ⟨gb163, 4, none⟩ (.int .i64 t161))) := ⟨by repeat (first | (with_reducible first | exact HB.out | apply below_alloc | apply pw_below_drewN | apply below_drew1 | refine below_set ?_ GE163.out) | exact HB.out)⟩
      (try clear HO154)
      (try clear BK163)
      (try clear HB)
      generalize (((((w15.setCell ⟨gb163, 0, none⟩ (.int .u8 t157)).setCell ⟨gb163, 1, none⟩ (.int .i64 t158)).setCell ⟨gb163, 2, none⟩ (.int .i64 t159)).setCell ⟨gb163, 3, none⟩ (.int .i64 t160)).setCell ⟨gb163, 4, none⟩ (.int .i64 t161)) = w17 at n0_ n1_ n2_ ⊢
      have HO154 := n0_
      have BK163 := n1_
      have HB := n2_
      clear n0_ n1_ n2_
      obtain ⟨HO154, BK163, HB⟩ := And.intro (Aside0.mk (Kd.R_drew HO154.out)) (And.intro (Aside0.mk (blk_drew BK163.out)) (Aside0.mk (below_drew1 HB.out)))
      refine start_ (n := 9) (S := fun w' => w'.cell? ⟨gb163, 0, none⟩ = some (.int .u8 t157) ∧ w'.cell? ⟨gb163, 1, none⟩ = some (.int .i64 t158) ∧ w'.cell? ⟨gb163, 2, none⟩ = some (.int .i64 t159) ∧ w'.cell? ⟨gb163, 3, none⟩ = some (.int .i64 t160) ∧ w'.cell? ⟨gb163, 4, none⟩ = some (.int .i64 t161)) (ds := []) (b_ 9 0) (by kernel_rfl) rfl rfl ⟨(blk_cell BK163.out 0).trans rfl, (blk_cell BK163.out 1).trans rfl, (blk_cell BK163.out 2).trans rfl, (blk_cell BK163.out 3).trans rfl, (blk_cell BK163.out 4).trans rfl⟩ (fun hHeld => ?_); refine with_tabW millhandlaw24_alive.tab2 millhandlaw24_alive.bits2 (fun HT_ HW_ => ?_)
      generalize w17.drew = w18 at HO154 BK163 HB hHeld ⊢
      refine tA_ 1 15 ?_ (b_ 9 2) (take_ofW HT_.out HW_.out (by kernel_rfl)) rfl rfl (fun _ _ _ h => h) (by rfl) ?_ hHeld ?_ ?_ ?_
      rotate_left
      ·
       rintro w' ⟨s0, s1, s2, s3, s4⟩
       go_simp
       with_reducible rfl
      rotate_left
      ·
       simp only [Act.put, sa_, s0_, s1_, i64_w, i32_w]
       rfl
      refine join_ (σ := Value × Nat) 2 (b_ 9 127) (fun s_ => [(14, .agg #[s_.1, .int .i64 t167, .int .i64 t168]), (16, .tuple #[.agg #[.int .u8 t169, .int .i64 t170, .int .i64 t171, .int .i64 t172, .int .i64 t173], .int .i64 t174]), (3, .pointer (some ⟨s_.2, 0, none⟩)), (13, .tuple #[.agg #[.int .u8 t169, .int .i64 t170, .int .i64 t171, .int .i64 t172, .int .i64 t173], .int .i64 t174]), (17, .agg #[.int .u8 t169, .int .i64 t170, .int .i64 t171, .int .i64 t172, .int .i64 t173]), (18, .int .i64 t174)]) (fun s_ w' => (w'.cell? ⟨gb163, 0, none⟩ = some (.int .u8 t157) ∧ w'.cell? ⟨gb163, 1, none⟩ = some (.int .i64 t158) ∧ w'.cell? ⟨gb163, 2, none⟩ = some (.int .i64 t159) ∧ w'.cell? ⟨gb163, 3, none⟩ = some (.int .i64 t160) ∧ w'.cell? ⟨gb163, 4, none⟩ = some (.int .i64 t161)) ∧ (Kd.R (Kd.int .i64) 3 w' w.heap.size (fun k_ => some k_ ≠ (s_.1 : Value).ownBlock) (.slice Ao13 t152.length co13) t152) ∧ (Kd.R (Kd.int .i64) 3 w' w.heap.size (fun k_ => some k_ ≠ (.slice Ao13 t152.length co13 : Value).ownBlock) s_.1 t164) ∧ (w'.heap[gb163]? = some (.cells #[.int .u8 t157, .int .i64 t158, .int .i64 t159, .int .i64 t160, .int .i64 t161] 31 (0, 0))) ∧ (w'.heap[s_.2]? = some (.cells #[.int .u8 0, .int .i64 0, .int .i64 0, .int .i64 0, .int .i64 0] 31 (0, 0))) ∧ (w.heap.size ≤ s_.2) ∧ (w.heap.size ≤ s_.2) ∧ (gb163 ≠ s_.2) ∧ (s_.2 ≠ gb163) ∧ (Below w.heap.size w w')) ?_ ?_
      rotate_left
      ·
       intro hCont
       refine two_ (i := 0) (j := 6) (Ni := some 14) (Nj := some 3) (b_ 9 3) (b_ 9 66) rfl rfl rfl rfl (two_of HT_.out (by kernel_rfl)) (by decide) (by decide) (fun K hK => ?_) (fun K hK => ?_)
       ·
        skip
        refine goes_ Try.func11 (by kernel_rfl) rfl #[] (by rfl) rfl rfl (by (try simp only [List.map_toArray, List.map_cons, List.map_nil]); first | done | rfl | (simp only [List.length_drop, List.length_take]; rfl)) ?_
        with_reducible refine (millhandlaw24_node.calls  t164 t167 t168 _ A3.out).mono ?_
        rintro e w19 ⟨v165, rfl, ho0, hb⟩
        refine ⟨_, rfl, ?_⟩
        obtain ⟨HO154, HO166, BK163, HB⟩ := And.intro (Aside0.mk (Kd.R_elder' (by (with_reducible repeat (first | apply Kd.R_alloc | apply Kd.R_drewN | apply Kd.R_drew)); exact HO154.out) (Kd.R_base ho0) hb)) (And.intro (Aside0.mk (Kd.R_lower (Kd.R_new' ho0 (Kd.R_lt (by (with_reducible repeat (first | apply Kd.R_alloc | apply Kd.R_drewN | apply Kd.R_drew)); exact HO154.out))) (below_size (by repeat (first | (with_reducible first | exact HB.out | apply below_alloc | apply pw_below_drewN | apply below_drew1 | refine below_set ?_ GE163.out) | exact HB.out))))) (And.intro (Aside0.mk (blk_below (g := gb163) (o := .cells #[.int .u8 t157, .int .i64 t158, .int .i64 t159, .int .i64 t160, .int .i64 t161] 31 (0, 0)) (by (with_reducible repeat (first | refine blk_drewN ?_ _ | refine blk_drew ?_ | refine blk_alloc ?_ _)); exact BK163.out) hb)) (Aside0.mk (below_step (by repeat (first | (with_reducible first | exact HB.out | apply below_alloc | apply pw_below_drewN | apply below_drew1 | refine below_set ?_ GE163.out) | exact HB.out)) hb))))
        (try clear hb)
        (try clear hb2)
        (try clear hk)
        (try clear hi)
        (try clear ho0)
        obtain ⟨Ao20, co20, eo20⟩ := Kd.R_slice HO166.out
        (first | subst eo20 | (injection eo20 with f1_ f2_ f3_; have f4_ := f1_.symm; have f5_ := f3_.symm; clear f1_ f2_ f3_; subst f4_; subst f5_))
        refine hK.out _ _ ⟨(blk_cell BK163.out 0).trans rfl, (blk_cell BK163.out 1).trans rfl, (blk_cell BK163.out 2).trans rfl, (blk_cell BK163.out 3).trans rfl, (blk_cell BK163.out 4).trans rfl⟩ (fun hHeld => ?_)
        clear hK K
        refine norm_ (a' := ?_) ?_ ?_
        rotate_left
        ·
         show Act.put _ (some 14) _ = _
         simp only [Act.put, sa_, s0_, s1_, i64_w, i32_w]
         rfl
        refine two_ (i := 2) (j := 6) (Ni := some 16) (Nj := some 3) (b_ 9 7) (b_ 9 67) rfl rfl rfl rfl (two_of HT_.out (by kernel_rfl)) (by decide) (by decide) (fun K hK => ?_) (fun K hK => ?_)
        ·
         skip
         refine goes_ Try.func19 (by kernel_rfl) rfl #[.agg #[.slice Ao20 t164.length co20, .int .i64 t167, .int .i64 t168], .agg #[.int .u8 t157, .int .i64 t158, .int .i64 t159, .int .i64 t160, .int .i64 t161], .int .i64 4, .int .i64 30] (by rfl) rfl rfl (by (try simp only [List.map_toArray, List.map_cons, List.map_nil]); first | done | rfl | (simp only [List.length_drop, List.length_take]; rfl)) ?_
         with_reducible refine (task_Lease.calls k _ _ t164 t167 t168 t157 t158 t159 t160 t161 4 30 t169 t170 t171 t172 t173 t174 _ ?side1 ?side2 A4.out).mono ?_
         (case side1 => repeat (first | exact (Kd.R_reads' HO166.out).2.2 | (with_reducible refine Kd.C_alloc ?_ _) | (with_reducible refine Kd.C_drewN ?_ _) | (with_reducible refine Kd.C_drew ?_)))
         (case side2 => exact (Kd.R_reads' HO166.out).2.1)
         rintro e w21 ⟨rfl, hb⟩
         refine ⟨_, rfl, ?_⟩
         obtain ⟨HO154, HO166, BK163, HB⟩ := And.intro (Aside0.mk (Kd.R_below (by (with_reducible repeat (first | apply Kd.R_alloc | apply Kd.R_drewN | apply Kd.R_drew)); exact HO154.out) hb)) (And.intro (Aside0.mk (Kd.R_below (by (with_reducible repeat (first | apply Kd.R_alloc | apply Kd.R_drewN | apply Kd.R_drew)); exact HO166.out) hb)) (And.intro (Aside0.mk (blk_below (g := gb163) (o := .cells #[.int .u8 t157, .int .i64 t158, .int .i64 t159, .int .i64 t160, .int .i64 t161] 31 (0, 0)) (by (with_reducible repeat (first | refine blk_drewN ?_ _ | refine blk_drew ?_ | refine blk_alloc ?_ _)); exact BK163.out) hb)) (Aside0.mk (below_step (by repeat (first | (with_reducible first | exact HB.out | apply below_alloc | apply pw_below_drewN | apply below_drew1 | refine below_set ?_ GE163.out) | exact HB.out)) hb))))
         (try clear hb)
         (try clear hb2)
         (try clear hk)
         (try clear hi)
         refine hK.out _ _ ⟨(blk_cell BK163.out 0).trans rfl, (blk_cell BK163.out 1).trans rfl, (blk_cell BK163.out 2).trans rfl, (blk_cell BK163.out 3).trans rfl, (blk_cell BK163.out 4).trans rfl⟩ (fun hHeld => ?_)
         clear hK K
         refine norm_ (a' := ?_) ?_ ?_
         rotate_left
         ·
          show Act.put _ (some 16) _ = _
          simp only [Act.put, sa_, s0_, s1_, i64_w, i32_w]
          rfl
         refine pA_ 3 13 ?_ (b_ 9 15) (any_of HT_.out (by kernel_rfl)) rfl rfl (fun _ _ _ h => h) (by rfl) ?_ ?_ ?_ ?_
         rotate_left
         ·
          intro w'
          go_simp
          with_reducible rfl
         rotate_left
         ·
          simp only [Act.put, sa_, s0_, s1_, i64_w, i32_w]
          rfl
         refine pA_ 4 17 ?_ (b_ 9 31) (any_of HT_.out (by kernel_rfl)) rfl rfl (fun _ _ _ h => h) (by rfl) ?_ ?_ ?_ ?_
         rotate_left
         ·
          intro w'
          go_simp
          with_reducible rfl
         rotate_left
         ·
          simp only [Act.put, sa_, s0_, s1_, i64_w, i32_w]
          rfl
         refine pA_ 5 18 ?_ (b_ 9 63) (any_of HT_.out (by kernel_rfl)) rfl rfl (fun _ _ _ h => h) (by rfl) ?_ ?_ ?_ ?_
         rotate_left
         ·
          intro w'
          go_simp
          with_reducible rfl
         rotate_left
         ·
          simp only [Act.put, sa_, s0_, s1_, i64_w, i32_w]
          rfl
         refine one_ (i := 6) (N := some 3) (b_ 9 127) rfl rfl (one_of HT_.out (by kernel_rfl)) (by decide) (fun K hK => ?_)
         refine box_step ?hg (N := 3) ?hd (cs := #[.int .u8 0, .int .i64 0, .int .i64 0, .int .i64 0, .int .i64 0]) (t := 31) ?hr ?_; (case hd => rfl); (case hg => rfl); (case hr => first | (go_simp; done) | (go_simp; rfl))
         intro gb175 hg w22 hbox hb
         obtain ⟨HO154, HO166, BK163, HB, BK175, GW175, GE175, NB163_175, NB175_163⟩ := And.intro (Aside0.mk (Kd.R_below (by (with_reducible repeat (first | apply Kd.R_alloc | apply Kd.R_drewN | apply Kd.R_drew)); exact HO154.out) hb)) (And.intro (Aside0.mk (Kd.R_below (by (with_reducible repeat (first | apply Kd.R_alloc | apply Kd.R_drewN | apply Kd.R_drew)); exact HO166.out) hb)) (And.intro (Aside0.mk (blk_below (g := gb163) (o := .cells #[.int .u8 t157, .int .i64 t158, .int .i64 t159, .int .i64 t160, .int .i64 t161] 31 (0, 0)) (by (with_reducible repeat (first | refine blk_drewN ?_ _ | refine blk_drew ?_ | refine blk_alloc ?_ _)); exact BK163.out) hb)) (And.intro (Aside0.mk (below_step (by repeat (first | (with_reducible first | exact HB.out | apply below_alloc | apply pw_below_drewN | apply below_drew1 | refine below_set ?_ GE163.out) | exact HB.out)) hb)) (And.intro (Aside0.mk (hbox)) (And.intro (Aside0.mk ((by rw [hg]; exact (below_size (by repeat (first | (with_reducible first | exact HB.out | apply below_alloc | apply pw_below_drewN | apply below_drew1 | refine below_set ?_ GE163.out) | exact HB.out))) : w.heap.size ≤ gb175))) (And.intro (Aside0.mk ((by rw [hg]; exact (below_size (by repeat (first | (with_reducible first | exact HB.out | apply below_alloc | apply pw_below_drewN | apply below_drew1 | refine below_set ?_ GE163.out) | exact HB.out))) : w.heap.size ≤ gb175))) (And.intro (Aside0.mk ((by rw [hg]; exact Nat.ne_of_lt (blk_lt (g := gb163) (o := .cells #[.int .u8 t157, .int .i64 t158, .int .i64 t159, .int .i64 t160, .int .i64 t161] 31 (0, 0)) (by (with_reducible repeat (first | refine blk_drewN ?_ _ | refine blk_drew ?_ | refine blk_alloc ?_ _)); exact BK163.out)) : gb163 ≠ gb175))) (Aside0.mk ((by rw [hg]; exact Nat.ne_of_gt (blk_lt (g := gb163) (o := .cells #[.int .u8 t157, .int .i64 t158, .int .i64 t159, .int .i64 t160, .int .i64 t161] 31 (0, 0)) (by (with_reducible repeat (first | refine blk_drewN ?_ _ | refine blk_drew ?_ | refine blk_alloc ?_ _)); exact BK163.out)) : gb175 ≠ gb163))))))))))
         clear hb hbox hg
         refine hK.out _ _ ⟨(blk_cell BK163.out 0).trans rfl, (blk_cell BK163.out 1).trans rfl, (blk_cell BK163.out 2).trans rfl, (blk_cell BK163.out 3).trans rfl, (blk_cell BK163.out 4).trans rfl⟩ (fun hHeld => ?_)
         clear hK K
         refine norm_ (a' := ?_) ?_ ?_
         rotate_left
         ·
          show Act.put _ (some 3) _ = _
          simp only [Act.put, sa_, s0_, s1_, i64_w, i32_w]
          rfl
         exact norm_ (by simp only [putAll, Act.put, sa_, s0_, s1_]) (hCont (.slice Ao20 t164.length co20, gb175) _ ⟨hHeld, (by (with_reducible repeat (first | apply Kd.R_alloc | apply Kd.R_drewN | apply Kd.R_drew)); exact Kd.R_mono HO154.out (fun _ hk => hk.2)), (by (with_reducible repeat (first | apply Kd.R_alloc | apply Kd.R_drewN | apply Kd.R_drew)); exact Kd.R_mono HO166.out (fun _ hk => hk.2)), (by (with_reducible repeat (first | refine blk_drewN ?_ _ | refine blk_drew ?_ | refine blk_alloc ?_ _)); exact BK163.out), (by (with_reducible repeat (first | refine blk_drewN ?_ _ | refine blk_drew ?_ | refine blk_alloc ?_ _)); exact BK175.out), GW175.out, GE175.out, NB163_175.out, NB175_163.out, (by repeat (first | (with_reducible first | exact HB.out | apply below_alloc | apply pw_below_drewN | apply below_drew1 | refine below_set ?_ GE163.out | refine below_set ?_ GE175.out) | exact HB.out))⟩)
        ·
         skip
         refine box_step ?hg (N := 3) ?hd (cs := #[.int .u8 0, .int .i64 0, .int .i64 0, .int .i64 0, .int .i64 0]) (t := 31) ?hr ?_; (case hd => rfl); (case hg => rfl); (case hr => first | (go_simp; done) | (go_simp; rfl))
         intro gb175 hg w20 hbox hb
         obtain ⟨HO154, HO166, BK163, HB, BK175, GW175, GE175, NB163_175, NB175_163⟩ := And.intro (Aside0.mk (Kd.R_below (by (with_reducible repeat (first | apply Kd.R_alloc | apply Kd.R_drewN | apply Kd.R_drew)); exact HO154.out) hb)) (And.intro (Aside0.mk (Kd.R_below (by (with_reducible repeat (first | apply Kd.R_alloc | apply Kd.R_drewN | apply Kd.R_drew)); exact HO166.out) hb)) (And.intro (Aside0.mk (blk_below (g := gb163) (o := .cells #[.int .u8 t157, .int .i64 t158, .int .i64 t159, .int .i64 t160, .int .i64 t161] 31 (0, 0)) (by (with_reducible repeat (first | refine blk_drewN ?_ _ | refine blk_drew ?_ | refine blk_alloc ?_ _)); exact BK163.out) hb)) (And.intro (Aside0.mk (below_step (by repeat (first | (with_reducible first | exact HB.out | apply below_alloc | apply pw_below_drewN | apply below_drew1 | refine below_set ?_ GE163.out) | exact HB.out)) hb)) (And.intro (Aside0.mk (hbox)) (And.intro (Aside0.mk ((by rw [hg]; exact (below_size (by repeat (first | (with_reducible first | exact HB.out | apply below_alloc | apply pw_below_drewN | apply below_drew1 | refine below_set ?_ GE163.out) | exact HB.out))) : w.heap.size ≤ gb175))) (And.intro (Aside0.mk ((by rw [hg]; exact (below_size (by repeat (first | (with_reducible first | exact HB.out | apply below_alloc | apply pw_below_drewN | apply below_drew1 | refine below_set ?_ GE163.out) | exact HB.out))) : w.heap.size ≤ gb175))) (And.intro (Aside0.mk ((by rw [hg]; exact Nat.ne_of_lt (blk_lt (g := gb163) (o := .cells #[.int .u8 t157, .int .i64 t158, .int .i64 t159, .int .i64 t160, .int .i64 t161] 31 (0, 0)) (by (with_reducible repeat (first | refine blk_drewN ?_ _ | refine blk_drew ?_ | refine blk_alloc ?_ _)); exact BK163.out)) : gb163 ≠ gb175))) (Aside0.mk ((by rw [hg]; exact Nat.ne_of_gt (blk_lt (g := gb163) (o := .cells #[.int .u8 t157, .int .i64 t158, .int .i64 t159, .int .i64 t160, .int .i64 t161] 31 (0, 0)) (by (with_reducible repeat (first | refine blk_drewN ?_ _ | refine blk_drew ?_ | refine blk_alloc ?_ _)); exact BK163.out)) : gb175 ≠ gb163))))))))))
         clear hb hbox hg
         obtain ⟨Ao21, co21, eo21⟩ := Kd.R_slice HO166.out
         (first | subst eo21 | (injection eo21 with f1_ f2_ f3_; have f4_ := f1_.symm; have f5_ := f3_.symm; clear f1_ f2_ f3_; subst f4_; subst f5_))
         refine hK.out _ _ ⟨(blk_cell BK163.out 0).trans rfl, (blk_cell BK163.out 1).trans rfl, (blk_cell BK163.out 2).trans rfl, (blk_cell BK163.out 3).trans rfl, (blk_cell BK163.out 4).trans rfl⟩ (fun hHeld => ?_)
         clear hK K
         refine norm_ (a' := ?_) ?_ ?_
         rotate_left
         ·
          show Act.put _ (some 3) _ = _
          simp only [Act.put, sa_, s0_, s1_, i64_w, i32_w]
          rfl
         refine one_ (i := 2) (N := some 16) (b_ 9 71) rfl rfl (one_of HT_.out (by kernel_rfl)) (by decide) (fun K hK => ?_)
         refine goes_ Try.func19 (by kernel_rfl) rfl #[.agg #[.slice Ao21 t164.length co21, .int .i64 t167, .int .i64 t168], .agg #[.int .u8 t157, .int .i64 t158, .int .i64 t159, .int .i64 t160, .int .i64 t161], .int .i64 4, .int .i64 30] (by rfl) rfl rfl (by (try simp only [List.map_toArray, List.map_cons, List.map_nil]); first | done | rfl | (simp only [List.length_drop, List.length_take]; rfl)) ?_
         with_reducible refine (task_Lease.calls k _ _ t164 t167 t168 t157 t158 t159 t160 t161 4 30 t169 t170 t171 t172 t173 t174 _ ?side1 ?side2 A4.out).mono ?_
         (case side1 => repeat (first | exact (Kd.R_reads' HO166.out).2.2 | (with_reducible refine Kd.C_alloc ?_ _) | (with_reducible refine Kd.C_drewN ?_ _) | (with_reducible refine Kd.C_drew ?_)))
         (case side2 => exact (Kd.R_reads' HO166.out).2.1)
         rintro e w22 ⟨rfl, hb⟩
         refine ⟨_, rfl, ?_⟩
         obtain ⟨HO154, HO166, BK163, BK175, HB⟩ := And.intro (Aside0.mk (Kd.R_below (by (with_reducible repeat (first | apply Kd.R_alloc | apply Kd.R_drewN | apply Kd.R_drew)); exact HO154.out) hb)) (And.intro (Aside0.mk (Kd.R_below (by (with_reducible repeat (first | apply Kd.R_alloc | apply Kd.R_drewN | apply Kd.R_drew)); exact HO166.out) hb)) (And.intro (Aside0.mk (blk_below (g := gb163) (o := .cells #[.int .u8 t157, .int .i64 t158, .int .i64 t159, .int .i64 t160, .int .i64 t161] 31 (0, 0)) (by (with_reducible repeat (first | refine blk_drewN ?_ _ | refine blk_drew ?_ | refine blk_alloc ?_ _)); exact BK163.out) hb)) (And.intro (Aside0.mk (blk_below (g := gb175) (o := .cells #[.int .u8 0, .int .i64 0, .int .i64 0, .int .i64 0, .int .i64 0] 31 (0, 0)) (by (with_reducible repeat (first | refine blk_drewN ?_ _ | refine blk_drew ?_ | refine blk_alloc ?_ _)); exact BK175.out) hb)) (Aside0.mk (below_step (by repeat (first | (with_reducible first | exact HB.out | apply below_alloc | apply pw_below_drewN | apply below_drew1 | refine below_set ?_ GE163.out | refine below_set ?_ GE175.out) | exact HB.out)) hb)))))
         (try clear hb)
         (try clear hb2)
         (try clear hk)
         (try clear hi)
         refine hK.out _ _ ⟨(blk_cell BK163.out 0).trans rfl, (blk_cell BK163.out 1).trans rfl, (blk_cell BK163.out 2).trans rfl, (blk_cell BK163.out 3).trans rfl, (blk_cell BK163.out 4).trans rfl⟩ (fun hHeld => ?_)
         clear hK K
         refine norm_ (a' := ?_) ?_ ?_
         rotate_left
         ·
          show Act.put _ (some 16) _ = _
          simp only [Act.put, sa_, s0_, s1_, i64_w, i32_w]
          rfl
         refine pA_ 3 13 ?_ (b_ 9 79) (any_of HT_.out (by kernel_rfl)) rfl rfl (fun _ _ _ h => h) (by rfl) ?_ ?_ ?_ ?_
         rotate_left
         ·
          intro w'
          go_simp
          with_reducible rfl
         rotate_left
         ·
          simp only [Act.put, sa_, s0_, s1_, i64_w, i32_w]
          rfl
         refine pA_ 4 17 ?_ (b_ 9 95) (any_of HT_.out (by kernel_rfl)) rfl rfl (fun _ _ _ h => h) (by rfl) ?_ ?_ ?_ ?_
         rotate_left
         ·
          intro w'
          go_simp
          with_reducible rfl
         rotate_left
         ·
          simp only [Act.put, sa_, s0_, s1_, i64_w, i32_w]
          rfl
         refine pA_ 5 18 ?_ (b_ 9 127) (any_of HT_.out (by kernel_rfl)) rfl rfl (fun _ _ _ h => h) (by rfl) ?_ ?_ ?_ ?_
         rotate_left
         ·
          intro w'
          go_simp
          with_reducible rfl
         rotate_left
         ·
          simp only [Act.put, sa_, s0_, s1_, i64_w, i32_w]
          rfl
         exact norm_ (by simp only [putAll, Act.put, sa_, s0_, s1_]) (hCont (.slice Ao21 t164.length co21, gb175) _ ⟨hHeld, (by (with_reducible repeat (first | apply Kd.R_alloc | apply Kd.R_drewN | apply Kd.R_drew)); exact Kd.R_mono HO154.out (fun _ hk => hk.2)), (by (with_reducible repeat (first | apply Kd.R_alloc | apply Kd.R_drewN | apply Kd.R_drew)); exact Kd.R_mono HO166.out (fun _ hk => hk.2)), (by (with_reducible repeat (first | refine blk_drewN ?_ _ | refine blk_drew ?_ | refine blk_alloc ?_ _)); exact BK163.out), (by (with_reducible repeat (first | refine blk_drewN ?_ _ | refine blk_drew ?_ | refine blk_alloc ?_ _)); exact BK175.out), GW175.out, GE175.out, NB163_175.out, NB175_163.out, (by repeat (first | (with_reducible first | exact HB.out | apply below_alloc | apply pw_below_drewN | apply below_drew1 | refine below_set ?_ GE163.out | refine below_set ?_ GE175.out) | exact HB.out))⟩)
       ·
        skip
        refine box_step ?hg (N := 3) ?hd (cs := #[.int .u8 0, .int .i64 0, .int .i64 0, .int .i64 0, .int .i64 0]) (t := 31) ?hr ?_; (case hd => rfl); (case hg => rfl); (case hr => first | (go_simp; done) | (go_simp; rfl))
        intro gb175 hg w19 hbox hb
        obtain ⟨HO154, BK163, HB, BK175, GW175, GE175, NB163_175, NB175_163⟩ := And.intro (Aside0.mk (Kd.R_below (by (with_reducible repeat (first | apply Kd.R_alloc | apply Kd.R_drewN | apply Kd.R_drew)); exact HO154.out) hb)) (And.intro (Aside0.mk (blk_below (g := gb163) (o := .cells #[.int .u8 t157, .int .i64 t158, .int .i64 t159, .int .i64 t160, .int .i64 t161] 31 (0, 0)) (by (with_reducible repeat (first | refine blk_drewN ?_ _ | refine blk_drew ?_ | refine blk_alloc ?_ _)); exact BK163.out) hb)) (And.intro (Aside0.mk (below_step (by repeat (first | (with_reducible first | exact HB.out | apply below_alloc | apply pw_below_drewN | apply below_drew1 | refine below_set ?_ GE163.out) | exact HB.out)) hb)) (And.intro (Aside0.mk (hbox)) (And.intro (Aside0.mk ((by rw [hg]; exact (below_size (by repeat (first | (with_reducible first | exact HB.out | apply below_alloc | apply pw_below_drewN | apply below_drew1 | refine below_set ?_ GE163.out) | exact HB.out))) : w.heap.size ≤ gb175))) (And.intro (Aside0.mk ((by rw [hg]; exact (below_size (by repeat (first | (with_reducible first | exact HB.out | apply below_alloc | apply pw_below_drewN | apply below_drew1 | refine below_set ?_ GE163.out) | exact HB.out))) : w.heap.size ≤ gb175))) (And.intro (Aside0.mk ((by rw [hg]; exact Nat.ne_of_lt (blk_lt (g := gb163) (o := .cells #[.int .u8 t157, .int .i64 t158, .int .i64 t159, .int .i64 t160, .int .i64 t161] 31 (0, 0)) (by (with_reducible repeat (first | refine blk_drewN ?_ _ | refine blk_drew ?_ | refine blk_alloc ?_ _)); exact BK163.out)) : gb163 ≠ gb175))) (Aside0.mk ((by rw [hg]; exact Nat.ne_of_gt (blk_lt (g := gb163) (o := .cells #[.int .u8 t157, .int .i64 t158, .int .i64 t159, .int .i64 t160, .int .i64 t161] 31 (0, 0)) (by (with_reducible repeat (first | refine blk_drewN ?_ _ | refine blk_drew ?_ | refine blk_alloc ?_ _)); exact BK163.out)) : gb175 ≠ gb163)))))))))
        clear hb hbox hg
        refine hK.out _ _ ⟨(blk_cell BK163.out 0).trans rfl, (blk_cell BK163.out 1).trans rfl, (blk_cell BK163.out 2).trans rfl, (blk_cell BK163.out 3).trans rfl, (blk_cell BK163.out 4).trans rfl⟩ (fun hHeld => ?_)
        clear hK K
        refine norm_ (a' := ?_) ?_ ?_
        rotate_left
        ·
         show Act.put _ (some 3) _ = _
         simp only [Act.put, sa_, s0_, s1_, i64_w, i32_w]
         rfl
        refine one_ (i := 0) (N := some 14) (b_ 9 67) rfl rfl (one_of HT_.out (by kernel_rfl)) (by decide) (fun K hK => ?_)
        refine goes_ Try.func11 (by kernel_rfl) rfl #[] (by rfl) rfl rfl (by (try simp only [List.map_toArray, List.map_cons, List.map_nil]); first | done | rfl | (simp only [List.length_drop, List.length_take]; rfl)) ?_
        with_reducible refine (millhandlaw24_node.calls  t164 t167 t168 _ A3.out).mono ?_
        rintro e w20 ⟨v165, rfl, ho0, hb⟩
        refine ⟨_, rfl, ?_⟩
        obtain ⟨HO154, HO166, BK163, BK175, HB⟩ := And.intro (Aside0.mk (Kd.R_elder' (by (with_reducible repeat (first | apply Kd.R_alloc | apply Kd.R_drewN | apply Kd.R_drew)); exact HO154.out) (Kd.R_base ho0) hb)) (And.intro (Aside0.mk (Kd.R_lower (Kd.R_new' ho0 (Kd.R_lt (by (with_reducible repeat (first | apply Kd.R_alloc | apply Kd.R_drewN | apply Kd.R_drew)); exact HO154.out))) (below_size (by repeat (first | (with_reducible first | exact HB.out | apply below_alloc | apply pw_below_drewN | apply below_drew1 | refine below_set ?_ GE163.out | refine below_set ?_ GE175.out) | exact HB.out))))) (And.intro (Aside0.mk (blk_below (g := gb163) (o := .cells #[.int .u8 t157, .int .i64 t158, .int .i64 t159, .int .i64 t160, .int .i64 t161] 31 (0, 0)) (by (with_reducible repeat (first | refine blk_drewN ?_ _ | refine blk_drew ?_ | refine blk_alloc ?_ _)); exact BK163.out) hb)) (And.intro (Aside0.mk (blk_below (g := gb175) (o := .cells #[.int .u8 0, .int .i64 0, .int .i64 0, .int .i64 0, .int .i64 0] 31 (0, 0)) (by (with_reducible repeat (first | refine blk_drewN ?_ _ | refine blk_drew ?_ | refine blk_alloc ?_ _)); exact BK175.out) hb)) (Aside0.mk (below_step (by repeat (first | (with_reducible first | exact HB.out | apply below_alloc | apply pw_below_drewN | apply below_drew1 | refine below_set ?_ GE163.out | refine below_set ?_ GE175.out) | exact HB.out)) hb)))))
        (try clear hb)
        (try clear hb2)
        (try clear hk)
        (try clear hi)
        (try clear ho0)
        obtain ⟨Ao21, co21, eo21⟩ := Kd.R_slice HO166.out
        (first | subst eo21 | (injection eo21 with f1_ f2_ f3_; have f4_ := f1_.symm; have f5_ := f3_.symm; clear f1_ f2_ f3_; subst f4_; subst f5_))
        refine hK.out _ _ ⟨(blk_cell BK163.out 0).trans rfl, (blk_cell BK163.out 1).trans rfl, (blk_cell BK163.out 2).trans rfl, (blk_cell BK163.out 3).trans rfl, (blk_cell BK163.out 4).trans rfl⟩ (fun hHeld => ?_)
        clear hK K
        refine norm_ (a' := ?_) ?_ ?_
        rotate_left
        ·
         show Act.put _ (some 14) _ = _
         simp only [Act.put, sa_, s0_, s1_, i64_w, i32_w]
         rfl
        refine one_ (i := 2) (N := some 16) (b_ 9 71) rfl rfl (one_of HT_.out (by kernel_rfl)) (by decide) (fun K hK => ?_)
        refine goes_ Try.func19 (by kernel_rfl) rfl #[.agg #[.slice Ao21 t164.length co21, .int .i64 t167, .int .i64 t168], .agg #[.int .u8 t157, .int .i64 t158, .int .i64 t159, .int .i64 t160, .int .i64 t161], .int .i64 4, .int .i64 30] (by rfl) rfl rfl (by (try simp only [List.map_toArray, List.map_cons, List.map_nil]); first | done | rfl | (simp only [List.length_drop, List.length_take]; rfl)) ?_
        with_reducible refine (task_Lease.calls k _ _ t164 t167 t168 t157 t158 t159 t160 t161 4 30 t169 t170 t171 t172 t173 t174 _ ?side1 ?side2 A4.out).mono ?_
        (case side1 => repeat (first | exact (Kd.R_reads' HO166.out).2.2 | (with_reducible refine Kd.C_alloc ?_ _) | (with_reducible refine Kd.C_drewN ?_ _) | (with_reducible refine Kd.C_drew ?_)))
        (case side2 => exact (Kd.R_reads' HO166.out).2.1)
        rintro e w22 ⟨rfl, hb⟩
        refine ⟨_, rfl, ?_⟩
        obtain ⟨HO154, HO166, BK163, BK175, HB⟩ := And.intro (Aside0.mk (Kd.R_below (by (with_reducible repeat (first | apply Kd.R_alloc | apply Kd.R_drewN | apply Kd.R_drew)); exact HO154.out) hb)) (And.intro (Aside0.mk (Kd.R_below (by (with_reducible repeat (first | apply Kd.R_alloc | apply Kd.R_drewN | apply Kd.R_drew)); exact HO166.out) hb)) (And.intro (Aside0.mk (blk_below (g := gb163) (o := .cells #[.int .u8 t157, .int .i64 t158, .int .i64 t159, .int .i64 t160, .int .i64 t161] 31 (0, 0)) (by (with_reducible repeat (first | refine blk_drewN ?_ _ | refine blk_drew ?_ | refine blk_alloc ?_ _)); exact BK163.out) hb)) (And.intro (Aside0.mk (blk_below (g := gb175) (o := .cells #[.int .u8 0, .int .i64 0, .int .i64 0, .int .i64 0, .int .i64 0] 31 (0, 0)) (by (with_reducible repeat (first | refine blk_drewN ?_ _ | refine blk_drew ?_ | refine blk_alloc ?_ _)); exact BK175.out) hb)) (Aside0.mk (below_step (by repeat (first | (with_reducible first | exact HB.out | apply below_alloc | apply pw_below_drewN | apply below_drew1 | refine below_set ?_ GE163.out | refine below_set ?_ GE175.out) | exact HB.out)) hb)))))
        (try clear hb)
        (try clear hb2)
        (try clear hk)
        (try clear hi)
        refine hK.out _ _ ⟨(blk_cell BK163.out 0).trans rfl, (blk_cell BK163.out 1).trans rfl, (blk_cell BK163.out 2).trans rfl, (blk_cell BK163.out 3).trans rfl, (blk_cell BK163.out 4).trans rfl⟩ (fun hHeld => ?_)
        clear hK K
        refine norm_ (a' := ?_) ?_ ?_
        rotate_left
        ·
         show Act.put _ (some 16) _ = _
         simp only [Act.put, sa_, s0_, s1_, i64_w, i32_w]
         rfl
        refine pA_ 3 13 ?_ (b_ 9 79) (any_of HT_.out (by kernel_rfl)) rfl rfl (fun _ _ _ h => h) (by rfl) ?_ ?_ ?_ ?_
        rotate_left
        ·
         intro w'
         go_simp
         with_reducible rfl
        rotate_left
        ·
         simp only [Act.put, sa_, s0_, s1_, i64_w, i32_w]
         rfl
        refine pA_ 4 17 ?_ (b_ 9 95) (any_of HT_.out (by kernel_rfl)) rfl rfl (fun _ _ _ h => h) (by rfl) ?_ ?_ ?_ ?_
        rotate_left
        ·
         intro w'
         go_simp
         with_reducible rfl
        rotate_left
        ·
         simp only [Act.put, sa_, s0_, s1_, i64_w, i32_w]
         rfl
        refine pA_ 5 18 ?_ (b_ 9 127) (any_of HT_.out (by kernel_rfl)) rfl rfl (fun _ _ _ h => h) (by rfl) ?_ ?_ ?_ ?_
        rotate_left
        ·
         intro w'
         go_simp
         with_reducible rfl
        rotate_left
        ·
         simp only [Act.put, sa_, s0_, s1_, i64_w, i32_w]
         rfl
        exact norm_ (by simp only [putAll, Act.put, sa_, s0_, s1_]) (hCont (.slice Ao21 t164.length co21, gb175) _ ⟨hHeld, (by (with_reducible repeat (first | apply Kd.R_alloc | apply Kd.R_drewN | apply Kd.R_drew)); exact Kd.R_mono HO154.out (fun _ hk => hk.2)), (by (with_reducible repeat (first | apply Kd.R_alloc | apply Kd.R_drewN | apply Kd.R_drew)); exact Kd.R_mono HO166.out (fun _ hk => hk.2)), (by (with_reducible repeat (first | refine blk_drewN ?_ _ | refine blk_drew ?_ | refine blk_alloc ?_ _)); exact BK163.out), (by (with_reducible repeat (first | refine blk_drewN ?_ _ | refine blk_drew ?_ | refine blk_alloc ?_ _)); exact BK175.out), GW175.out, GE175.out, NB163_175.out, NB175_163.out, (by repeat (first | (with_reducible first | exact HB.out | apply below_alloc | apply pw_below_drewN | apply below_drew1 | refine below_set ?_ GE163.out | refine below_set ?_ GE175.out) | exact HB.out))⟩)
      rintro ⟨v165, gb175⟩ w23 ⟨hS_, h0_, h1_, h2_, h3_, h4_, h5_, h6_, h7_, h8_⟩
      have n0_ : Aside0 (Kd.R (Kd.int .i64) 3 w23 w.heap.size (fun k_ => some k_ ≠ (v165 : Value).ownBlock) (.slice Ao13 t152.length co13) t152) := ⟨h0_⟩
      have n1_ : Aside0 (Kd.R (Kd.int .i64) 3 w23 w.heap.size (fun k_ => some k_ ≠ (.slice Ao13 t152.length co13 : Value).ownBlock) v165 t164) := ⟨h1_⟩
      have n2_ : Aside0 (w23.heap[gb163]? = some (.cells #[.int .u8 t157, .int .i64 t158, .int .i64 t159, .int .i64 t160, .int .i64 t161] 31 (0, 0))) := ⟨h2_⟩
      have n3_ : Aside0 (w23.heap[gb175]? = some (.cells #[.int .u8 0, .int .i64 0, .int .i64 0, .int .i64 0, .int .i64 0] 31 (0, 0))) := ⟨h3_⟩
      have n4_ : Aside0 (w.heap.size ≤ gb175) := ⟨h4_⟩
      have n5_ : Aside0 (w.heap.size ≤ gb175) := ⟨h5_⟩
      have n6_ : Aside0 (gb163 ≠ gb175) := ⟨h6_⟩
      have n7_ : Aside0 (gb175 ≠ gb163) := ⟨h7_⟩
      have n8_ : Aside0 (Below w.heap.size w w23) := ⟨h8_⟩
      clear HO154
      clear BK163
      clear HB
      clear h0_ h1_ h2_ h3_ h4_ h5_ h6_ h7_ h8_
      have HO154 := n0_
      have HO166 := n1_
      have BK163 := n2_
      have BK175 := n3_
      have GW175 := n4_
      have GE175 := n5_
      have NB163_175 := n6_
      have NB175_163 := n7_
      have HB := n8_
      clear n0_ n1_ n2_ n3_ n4_ n5_ n6_ n7_ n8_
      have hHeld : w23.cell? ⟨gb163, 0, none⟩ = some (.int .u8 t157) ∧ w23.cell? ⟨gb163, 1, none⟩ = some (.int .i64 t158) ∧ w23.cell? ⟨gb163, 2, none⟩ = some (.int .i64 t159) ∧ w23.cell? ⟨gb163, 3, none⟩ = some (.int .i64 t160) ∧ w23.cell? ⟨gb163, 4, none⟩ = some (.int .i64 t161) := hS_
      refine norm_ (a' := ?_) ?_ ?_
      rotate_left
      ·
       simp only [putAll, Act.put, sa_, s0_, s1_]
       rfl
      refine one_ (i := 7) (N := none) (b_ 9 255) rfl rfl (one_of HT_.out (by kernel_rfl)) (by decide) (fun K hK => ?_)
      have hs24 : w23.cell? ⟨gb175, 0, none⟩ = some (.int .u8 0) := (blk_cell BK175.out 0).trans rfl
      have hfs24 := blk_frozen BK175.out 0
      have hns24_0 := NB163_175.out
      have hms24_0 := NB175_163.out
      have hs25 : w23.cell? ⟨gb175, 1, none⟩ = some (.int .i64 0) := (blk_cell BK175.out 1).trans rfl
      have hfs25 := blk_frozen BK175.out 1
      have hns25_0 := NB163_175.out
      have hms25_0 := NB175_163.out
      have hs26 : w23.cell? ⟨gb175, 2, none⟩ = some (.int .i64 0) := (blk_cell BK175.out 2).trans rfl
      have hfs26 := blk_frozen BK175.out 2
      have hns26_0 := NB163_175.out
      have hms26_0 := NB175_163.out
      have hs27 : w23.cell? ⟨gb175, 3, none⟩ = some (.int .i64 0) := (blk_cell BK175.out 3).trans rfl
      have hfs27 := blk_frozen BK175.out 3
      have hns27_0 := NB163_175.out
      have hms27_0 := NB175_163.out
      have hs28 : w23.cell? ⟨gb175, 4, none⟩ = some (.int .i64 0) := (blk_cell BK175.out 4).trans rfl
      have hfs28 := blk_frozen BK175.out 4
      have hns28_0 := NB163_175.out
      have hms28_0 := NB175_163.out
      refine skip_ (w1 := ?_) (by rfl) rfl ?_ ?_
      rotate_left
      ·
       go_simp
       rfl
      refine hK.out _ _ ⟨((cell_far (p := ⟨gb175, _, none⟩) NB163_175.out _).trans (((cell_far (p := ⟨gb175, _, none⟩) NB163_175.out _).trans (((cell_far (p := ⟨gb175, _, none⟩) NB163_175.out _).trans (((cell_far (p := ⟨gb175, _, none⟩) NB163_175.out _).trans (((cell_far (p := ⟨gb175, _, none⟩) NB163_175.out _).trans (hHeld.1)))))))))), ((cell_far (p := ⟨gb175, _, none⟩) NB163_175.out _).trans (((cell_far (p := ⟨gb175, _, none⟩) NB163_175.out _).trans (((cell_far (p := ⟨gb175, _, none⟩) NB163_175.out _).trans (((cell_far (p := ⟨gb175, _, none⟩) NB163_175.out _).trans (((cell_far (p := ⟨gb175, _, none⟩) NB163_175.out _).trans (hHeld.2.1)))))))))), ((cell_far (p := ⟨gb175, _, none⟩) NB163_175.out _).trans (((cell_far (p := ⟨gb175, _, none⟩) NB163_175.out _).trans (((cell_far (p := ⟨gb175, _, none⟩) NB163_175.out _).trans (((cell_far (p := ⟨gb175, _, none⟩) NB163_175.out _).trans (((cell_far (p := ⟨gb175, _, none⟩) NB163_175.out _).trans (hHeld.2.2.1)))))))))), ((cell_far (p := ⟨gb175, _, none⟩) NB163_175.out _).trans (((cell_far (p := ⟨gb175, _, none⟩) NB163_175.out _).trans (((cell_far (p := ⟨gb175, _, none⟩) NB163_175.out _).trans (((cell_far (p := ⟨gb175, _, none⟩) NB163_175.out _).trans (((cell_far (p := ⟨gb175, _, none⟩) NB163_175.out _).trans (hHeld.2.2.2.1)))))))))), ((cell_far (p := ⟨gb175, _, none⟩) NB163_175.out _).trans (((cell_far (p := ⟨gb175, _, none⟩) NB163_175.out _).trans (((cell_far (p := ⟨gb175, _, none⟩) NB163_175.out _).trans (((cell_far (p := ⟨gb175, _, none⟩) NB163_175.out _).trans (((cell_far (p := ⟨gb175, _, none⟩) NB163_175.out _).trans (hHeld.2.2.2.2))))))))))⟩ (fun hHeld => ?_)
      clear hK K
      refine pA_ 8 4 ?_ (b_ 9 511) (any_of HT_.out (by kernel_rfl)) rfl rfl (fun _ _ _ h => h) (by rfl) ?_ ?_ ?_ ?_
      rotate_left
      ·
       intro w'
       go_simp
       with_reducible rfl
      rotate_left
      ·
       simp only [Act.put, sa_, s0_, s1_, i64_w, i32_w]
       rfl
      refine done_ (done_of HT_.out (by kernel_rfl)) ?_
      try go_wp2
      have n0_ : Aside0 (Kd.R (Kd.int .i64) 3 (((((w23.setCell ⟨gb175, 0, none⟩ (.int .u8 t169)).setCell ⟨gb175, 1, none⟩ (.int .i64 t170)).setCell ⟨gb175, 2, none⟩ (.int .i64 t171)).setCell ⟨gb175, 3, none⟩ (.int .i64 t172)).setCell ⟨gb175, 4, none⟩ (.int .i64 t173)) w.heap.size (fun k_ => some k_ ≠ (v165 : Value).ownBlock) (.slice Ao13 t152.length co13) t152) := ⟨by (with_reducible repeat (first | apply Kd.R_alloc | apply Kd.R_drewN | apply Kd.R_drew)); exact Kd.R_mono (Kd.R_far (p := ⟨gb175, 4, none⟩) (Kd.R_far (p := ⟨gb175, 3, none⟩) (Kd.R_far (p := ⟨gb175, 2, none⟩) (Kd.R_far (p := ⟨gb175, 1, none⟩) (Kd.R_far (p := ⟨gb175, 0, none⟩) (Kd.R_types HO154.out BK175.out (by decide)) (fun _ hk => hk.2) (.int .u8 t169)) (fun _ hk => hk.2) (.int .i64 t170)) (fun _ hk => hk.2) (.int .i64 t171)) (fun _ hk => hk.2) (.int .i64 t172)) (fun _ hk => hk.2) (.int .i64 t173)) (fun _ hk => hk.1)⟩
      have n1_ : Aside0 (Kd.R (Kd.int .i64) 3 (((((w23.setCell ⟨gb175, 0, none⟩ (.int .u8 t169)).setCell ⟨gb175, 1, none⟩ (.int .i64 t170)).setCell ⟨gb175, 2, none⟩ (.int .i64 t171)).setCell ⟨gb175, 3, none⟩ (.int .i64 t172)).setCell ⟨gb175, 4, none⟩ (.int .i64 t173)) w.heap.size (fun k_ => some k_ ≠ (.slice Ao13 t152.length co13 : Value).ownBlock) v165 t164) := ⟨by (with_reducible repeat (first | apply Kd.R_alloc | apply Kd.R_drewN | apply Kd.R_drew)); exact Kd.R_mono (Kd.R_far (p := ⟨gb175, 4, none⟩) (Kd.R_far (p := ⟨gb175, 3, none⟩) (Kd.R_far (p := ⟨gb175, 2, none⟩) (Kd.R_far (p := ⟨gb175, 1, none⟩) (Kd.R_far (p := ⟨gb175, 0, none⟩) (Kd.R_types HO166.out BK175.out (by decide)) (fun _ hk => hk.2) (.int .u8 t169)) (fun _ hk => hk.2) (.int .i64 t170)) (fun _ hk => hk.2) (.int .i64 t171)) (fun _ hk => hk.2) (.int .i64 t172)) (fun _ hk => hk.2) (.int .i64 t173)) (fun _ hk => hk.1)⟩
      have n2_ : Aside0 ((((((w23.setCell ⟨gb175, 0, none⟩ (.int .u8 t169)).setCell ⟨gb175, 1, none⟩ (.int .i64 t170)).setCell ⟨gb175, 2, none⟩ (.int .i64 t171)).setCell ⟨gb175, 3, none⟩ (.int .i64 t172)).setCell ⟨gb175, 4, none⟩ (.int .i64 t173)).heap[gb163]? = some (.cells #[.int .u8 t157, .int .i64 t158, .int .i64 t159, .int .i64 t160, .int .i64 t161] 31 (0, 0))) := ⟨by (with_reducible repeat (first | refine blk_drewN ?_ _ | refine blk_drew ?_ | refine blk_alloc ?_ _)); refine blk_far ?_ NB163_175.out _; (with_reducible repeat (first | refine blk_drewN ?_ _ | refine blk_drew ?_ | refine blk_alloc ?_ _)); refine blk_far ?_ NB163_175.out _; (with_reducible repeat (first | refine blk_drewN ?_ _ | refine blk_drew ?_ | refine blk_alloc ?_ _)); refine blk_far ?_ NB163_175.out _; (with_reducible repeat (first | refine blk_drewN ?_ _ | refine blk_drew ?_ | refine blk_alloc ?_ _)); refine blk_far ?_ NB163_175.out _; (with_reducible repeat (first | refine blk_drewN ?_ _ | refine blk_drew ?_ | refine blk_alloc ?_ _)); refine blk_far ?_ NB163_175.out _; (with_reducible repeat (first | refine blk_drewN ?_ _ | refine blk_drew ?_ | refine blk_alloc ?_ _)); exact BK163.out⟩
      have n3_ : Aside0 ((((((w23.setCell ⟨gb175, 0, none⟩ (.int .u8 t169)).setCell ⟨gb175, 1, none⟩ (.int .i64 t170)).setCell ⟨gb175, 2, none⟩ (.int .i64 t171)).setCell ⟨gb175, 3, none⟩ (.int .i64 t172)).setCell ⟨gb175, 4, none⟩ (.int .i64 t173)).heap[gb175]? = some (.cells #[.int .u8 t169, .int .i64 t170, .int .i64 t171, .int .i64 t172, .int .i64 t173] 31 (0, 0))) := ⟨by (with_reducible repeat (first | refine blk_drewN ?_ _ | refine blk_drew ?_ | refine blk_alloc ?_ _)); refine blk_put (cs := #[.int .u8 t169, .int .i64 t170, .int .i64 t171, .int .i64 t172, .int .i64 0]) ?_ 4 _ rfl; (with_reducible repeat (first | refine blk_drewN ?_ _ | refine blk_drew ?_ | refine blk_alloc ?_ _)); refine blk_put (cs := #[.int .u8 t169, .int .i64 t170, .int .i64 t171, .int .i64 0, .int .i64 0]) ?_ 3 _ rfl; (with_reducible repeat (first | refine blk_drewN ?_ _ | refine blk_drew ?_ | refine blk_alloc ?_ _)); refine blk_put (cs := #[.int .u8 t169, .int .i64 t170, .int .i64 0, .int .i64 0, .int .i64 0]) ?_ 2 _ rfl; (with_reducible repeat (first | refine blk_drewN ?_ _ | refine blk_drew ?_ | refine blk_alloc ?_ _)); refine blk_put (cs := #[.int .u8 t169, .int .i64 0, .int .i64 0, .int .i64 0, .int .i64 0]) ?_ 1 _ rfl; (with_reducible repeat (first | refine blk_drewN ?_ _ | refine blk_drew ?_ | refine blk_alloc ?_ _)); refine blk_put (cs := #[.int .u8 0, .int .i64 0, .int .i64 0, .int .i64 0, .int .i64 0]) ?_ 0 _ rfl; (with_reducible repeat (first | refine blk_drewN ?_ _ | refine blk_drew ?_ | refine blk_alloc ?_ _)); exact BK175.out⟩
      have n4_ : Aside0 (Below w.heap.size w (((((w23.setCell ⟨gb175, 0, none⟩ (.int .u8 t169)).setCell ⟨gb175, 1, none⟩ (.int .i64 t170)).setCell ⟨gb175, 2, none⟩ (.int .i64 t171)).setCell ⟨gb175, 3, none⟩ (.int .i64 t172)).setCell ⟨gb175, 4, none⟩ (.int .i64 t173))) := ⟨by repeat (first | (with_reducible first | exact HB.out | apply below_alloc | apply pw_below_drewN | apply below_drew1 | refine below_set ?_ GE163.out | refine below_set ?_ GE175.out) | exact HB.out)⟩
      (try clear HO154)
      (try clear HO166)
      (try clear BK163)
      (try clear BK175)
      (try clear HB)
      generalize (((((w23.setCell ⟨gb175, 0, none⟩ (.int .u8 t169)).setCell ⟨gb175, 1, none⟩ (.int .i64 t170)).setCell ⟨gb175, 2, none⟩ (.int .i64 t171)).setCell ⟨gb175, 3, none⟩ (.int .i64 t172)).setCell ⟨gb175, 4, none⟩ (.int .i64 t173)) = w29 at n0_ n1_ n2_ n3_ n4_ ⊢
      have HO154 := n0_
      have HO166 := n1_
      have BK163 := n2_
      have BK175 := n3_
      have HB := n4_
      clear n0_ n1_ n2_ n3_ n4_
      obtain ⟨HO154, HO166, BK163, BK175, HB⟩ := And.intro (Aside0.mk (Kd.R_drew HO154.out)) (And.intro (Aside0.mk (Kd.R_drew HO166.out)) (And.intro (Aside0.mk (blk_drew BK163.out)) (And.intro (Aside0.mk (blk_drew BK175.out)) (Aside0.mk (below_drew1 HB.out)))))
      refine start_ (n := 9) (S := fun w' => w'.cell? ⟨gb175, 0, none⟩ = some (.int .u8 t169) ∧ w'.cell? ⟨gb175, 1, none⟩ = some (.int .i64 t170) ∧ w'.cell? ⟨gb175, 2, none⟩ = some (.int .i64 t171) ∧ w'.cell? ⟨gb175, 3, none⟩ = some (.int .i64 t172) ∧ w'.cell? ⟨gb175, 4, none⟩ = some (.int .i64 t173)) (ds := []) (b_ 9 0) (by kernel_rfl) rfl rfl ⟨(blk_cell BK175.out 0).trans rfl, (blk_cell BK175.out 1).trans rfl, (blk_cell BK175.out 2).trans rfl, (blk_cell BK175.out 3).trans rfl, (blk_cell BK175.out 4).trans rfl⟩ (fun hHeld => ?_); refine with_tabW millhandlaw24_alive.tab3 millhandlaw24_alive.bits3 (fun HT_ HW_ => ?_)
      generalize w29.drew = w30 at HO154 HO166 BK163 BK175 HB hHeld ⊢
      refine tA_ 1 21 ?_ (b_ 9 2) (take_ofW HT_.out HW_.out (by kernel_rfl)) rfl rfl (fun _ _ _ h => h) (by rfl) ?_ hHeld ?_ ?_ ?_
      rotate_left
      ·
       rintro w' ⟨s0, s1, s2, s3, s4⟩
       go_simp
       with_reducible rfl
      rotate_left
      ·
       simp only [Act.put, sa_, s0_, s1_, i64_w, i32_w]
       rfl
      refine join_ (σ := Value × Nat) 2 (b_ 9 127) (fun s_ => [(20, .agg #[s_.1, .int .i64 t179, .int .i64 t180]), (22, .tuple #[.agg #[.int .u8 t181, .int .i64 t182, .int .i64 t183, .int .i64 t184, .int .i64 t185], .int .i64 t186]), (5, .pointer (some ⟨s_.2, 0, none⟩)), (19, .tuple #[.agg #[.int .u8 t181, .int .i64 t182, .int .i64 t183, .int .i64 t184, .int .i64 t185], .int .i64 t186]), (23, .agg #[.int .u8 t181, .int .i64 t182, .int .i64 t183, .int .i64 t184, .int .i64 t185]), (24, .int .i64 t186)]) (fun s_ w' => (w'.cell? ⟨gb175, 0, none⟩ = some (.int .u8 t169) ∧ w'.cell? ⟨gb175, 1, none⟩ = some (.int .i64 t170) ∧ w'.cell? ⟨gb175, 2, none⟩ = some (.int .i64 t171) ∧ w'.cell? ⟨gb175, 3, none⟩ = some (.int .i64 t172) ∧ w'.cell? ⟨gb175, 4, none⟩ = some (.int .i64 t173)) ∧ (Kd.R (Kd.int .i64) 3 w' w.heap.size (fun k_ => some k_ ≠ (v165 : Value).ownBlock ∧ some k_ ≠ (s_.1 : Value).ownBlock) (.slice Ao13 t152.length co13) t152) ∧ (Kd.R (Kd.int .i64) 3 w' w.heap.size (fun k_ => some k_ ≠ (.slice Ao13 t152.length co13 : Value).ownBlock ∧ some k_ ≠ (s_.1 : Value).ownBlock) v165 t164) ∧ (Kd.R (Kd.int .i64) 3 w' w.heap.size (fun k_ => some k_ ≠ (.slice Ao13 t152.length co13 : Value).ownBlock ∧ some k_ ≠ (v165 : Value).ownBlock) s_.1 t176) ∧ (w'.heap[gb163]? = some (.cells #[.int .u8 t157, .int .i64 t158, .int .i64 t159, .int .i64 t160, .int .i64 t161] 31 (0, 0))) ∧ (w'.heap[gb175]? = some (.cells #[.int .u8 t169, .int .i64 t170, .int .i64 t171, .int .i64 t172, .int .i64 t173] 31 (0, 0))) ∧ (w'.heap[s_.2]? = some (.cells #[.int .u8 0, .int .i64 0, .int .i64 0, .int .i64 0, .int .i64 0] 31 (0, 0))) ∧ (w.heap.size ≤ s_.2) ∧ (w.heap.size ≤ s_.2) ∧ (gb163 ≠ s_.2) ∧ (s_.2 ≠ gb163) ∧ (gb175 ≠ s_.2) ∧ (s_.2 ≠ gb175) ∧ (Below w.heap.size w w')) ?_ ?_
      rotate_left
      ·
       intro hCont
       refine two_ (i := 0) (j := 6) (Ni := some 20) (Nj := some 5) (b_ 9 3) (b_ 9 66) rfl rfl rfl rfl (two_of HT_.out (by kernel_rfl)) (by decide) (by decide) (fun K hK => ?_) (fun K hK => ?_)
       ·
        skip
        refine goes_ Try.func11 (by kernel_rfl) rfl #[] (by rfl) rfl rfl (by (try simp only [List.map_toArray, List.map_cons, List.map_nil]); first | done | rfl | (simp only [List.length_drop, List.length_take]; rfl)) ?_
        with_reducible refine (millhandlaw24_node.calls  t176 t179 t180 _ A5.out).mono ?_
        rintro e w31 ⟨v177, rfl, ho0, hb⟩
        refine ⟨_, rfl, ?_⟩
        obtain ⟨HO154, HO166, HO178, BK163, BK175, HB⟩ := And.intro (Aside0.mk (Kd.R_elder' (by (with_reducible repeat (first | apply Kd.R_alloc | apply Kd.R_drewN | apply Kd.R_drew)); exact HO154.out) (Kd.R_base ho0) hb)) (And.intro (Aside0.mk (Kd.R_elder' (by (with_reducible repeat (first | apply Kd.R_alloc | apply Kd.R_drewN | apply Kd.R_drew)); exact HO166.out) (Kd.R_base ho0) hb)) (And.intro (Aside0.mk (Kd.R_lower (Kd.R_new' (Kd.R_new' ho0 (Kd.R_lt (by (with_reducible repeat (first | apply Kd.R_alloc | apply Kd.R_drewN | apply Kd.R_drew)); exact HO154.out))) (Kd.R_lt (by (with_reducible repeat (first | apply Kd.R_alloc | apply Kd.R_drewN | apply Kd.R_drew)); exact HO166.out))) (below_size (by repeat (first | (with_reducible first | exact HB.out | apply below_alloc | apply pw_below_drewN | apply below_drew1 | refine below_set ?_ GE163.out | refine below_set ?_ GE175.out) | exact HB.out))))) (And.intro (Aside0.mk (blk_below (g := gb163) (o := .cells #[.int .u8 t157, .int .i64 t158, .int .i64 t159, .int .i64 t160, .int .i64 t161] 31 (0, 0)) (by (with_reducible repeat (first | refine blk_drewN ?_ _ | refine blk_drew ?_ | refine blk_alloc ?_ _)); exact BK163.out) hb)) (And.intro (Aside0.mk (blk_below (g := gb175) (o := .cells #[.int .u8 t169, .int .i64 t170, .int .i64 t171, .int .i64 t172, .int .i64 t173] 31 (0, 0)) (by (with_reducible repeat (first | refine blk_drewN ?_ _ | refine blk_drew ?_ | refine blk_alloc ?_ _)); exact BK175.out) hb)) (Aside0.mk (below_step (by repeat (first | (with_reducible first | exact HB.out | apply below_alloc | apply pw_below_drewN | apply below_drew1 | refine below_set ?_ GE163.out | refine below_set ?_ GE175.out) | exact HB.out)) hb))))))
        (try clear hb)
        (try clear hb2)
        (try clear hk)
        (try clear hi)
        (try clear ho0)
        obtain ⟨Ao32, co32, eo32⟩ := Kd.R_slice HO178.out
        (first | subst eo32 | (injection eo32 with f1_ f2_ f3_; have f4_ := f1_.symm; have f5_ := f3_.symm; clear f1_ f2_ f3_; subst f4_; subst f5_))
        refine hK.out _ _ ⟨(blk_cell BK175.out 0).trans rfl, (blk_cell BK175.out 1).trans rfl, (blk_cell BK175.out 2).trans rfl, (blk_cell BK175.out 3).trans rfl, (blk_cell BK175.out 4).trans rfl⟩ (fun hHeld => ?_)
        clear hK K
        refine norm_ (a' := ?_) ?_ ?_
        rotate_left
        ·
         show Act.put _ (some 20) _ = _
         simp only [Act.put, sa_, s0_, s1_, i64_w, i32_w]
         rfl
        refine two_ (i := 2) (j := 6) (Ni := some 22) (Nj := some 5) (b_ 9 7) (b_ 9 67) rfl rfl rfl rfl (two_of HT_.out (by kernel_rfl)) (by decide) (by decide) (fun K hK => ?_) (fun K hK => ?_)
        ·
         skip
         refine goes_ Try.func22 (by kernel_rfl) rfl #[.agg #[.slice Ao32 t176.length co32, .int .i64 t179, .int .i64 t180], .agg #[.int .u8 t169, .int .i64 t170, .int .i64 t171, .int .i64 t172, .int .i64 t173], .int .i64 4, .int .i64 12] (by rfl) rfl rfl (by (try simp only [List.map_toArray, List.map_cons, List.map_nil]); first | done | rfl | (simp only [List.length_drop, List.length_take]; rfl)) ?_
         with_reducible refine (task_Fail.calls k _ _ t176 t179 t180 t169 t170 t171 t172 t173 4 12 t181 t182 t183 t184 t185 t186 _ ?side1 ?side2 A6.out).mono ?_
         (case side1 => repeat (first | exact (Kd.R_reads' HO178.out).2.2 | (with_reducible refine Kd.C_alloc ?_ _) | (with_reducible refine Kd.C_drewN ?_ _) | (with_reducible refine Kd.C_drew ?_)))
         (case side2 => exact (Kd.R_reads' HO178.out).2.1)
         rintro e w33 ⟨rfl, hb⟩
         refine ⟨_, rfl, ?_⟩
         obtain ⟨HO154, HO166, HO178, BK163, BK175, HB⟩ := And.intro (Aside0.mk (Kd.R_below (by (with_reducible repeat (first | apply Kd.R_alloc | apply Kd.R_drewN | apply Kd.R_drew)); exact HO154.out) hb)) (And.intro (Aside0.mk (Kd.R_below (by (with_reducible repeat (first | apply Kd.R_alloc | apply Kd.R_drewN | apply Kd.R_drew)); exact HO166.out) hb)) (And.intro (Aside0.mk (Kd.R_below (by (with_reducible repeat (first | apply Kd.R_alloc | apply Kd.R_drewN | apply Kd.R_drew)); exact HO178.out) hb)) (And.intro (Aside0.mk (blk_below (g := gb163) (o := .cells #[.int .u8 t157, .int .i64 t158, .int .i64 t159, .int .i64 t160, .int .i64 t161] 31 (0, 0)) (by (with_reducible repeat (first | refine blk_drewN ?_ _ | refine blk_drew ?_ | refine blk_alloc ?_ _)); exact BK163.out) hb)) (And.intro (Aside0.mk (blk_below (g := gb175) (o := .cells #[.int .u8 t169, .int .i64 t170, .int .i64 t171, .int .i64 t172, .int .i64 t173] 31 (0, 0)) (by (with_reducible repeat (first | refine blk_drewN ?_ _ | refine blk_drew ?_ | refine blk_alloc ?_ _)); exact BK175.out) hb)) (Aside0.mk (below_step (by repeat (first | (with_reducible first | exact HB.out | apply below_alloc | apply pw_below_drewN | apply below_drew1 | refine below_set ?_ GE163.out | refine below_set ?_ GE175.out) | exact HB.out)) hb))))))
         (try clear hb)
         (try clear hb2)
         (try clear hk)
         (try clear hi)
         refine hK.out _ _ ⟨(blk_cell BK175.out 0).trans rfl, (blk_cell BK175.out 1).trans rfl, (blk_cell BK175.out 2).trans rfl, (blk_cell BK175.out 3).trans rfl, (blk_cell BK175.out 4).trans rfl⟩ (fun hHeld => ?_)
         clear hK K
         refine norm_ (a' := ?_) ?_ ?_
         rotate_left
         ·
          show Act.put _ (some 22) _ = _
          simp only [Act.put, sa_, s0_, s1_, i64_w, i32_w]
          rfl
         refine pA_ 3 19 ?_ (b_ 9 15) (any_of HT_.out (by kernel_rfl)) rfl rfl (fun _ _ _ h => h) (by rfl) ?_ ?_ ?_ ?_
         rotate_left
         ·
          intro w'
          go_simp
          with_reducible rfl
         rotate_left
         ·
          simp only [Act.put, sa_, s0_, s1_, i64_w, i32_w]
          rfl
         refine pA_ 4 23 ?_ (b_ 9 31) (any_of HT_.out (by kernel_rfl)) rfl rfl (fun _ _ _ h => h) (by rfl) ?_ ?_ ?_ ?_
         rotate_left
         ·
          intro w'
          go_simp
          with_reducible rfl
         rotate_left
         ·
          simp only [Act.put, sa_, s0_, s1_, i64_w, i32_w]
          rfl
         refine pA_ 5 24 ?_ (b_ 9 63) (any_of HT_.out (by kernel_rfl)) rfl rfl (fun _ _ _ h => h) (by rfl) ?_ ?_ ?_ ?_
         rotate_left
         ·
          intro w'
          go_simp
          with_reducible rfl
         rotate_left
         ·
          simp only [Act.put, sa_, s0_, s1_, i64_w, i32_w]
          rfl
         refine one_ (i := 6) (N := some 5) (b_ 9 127) rfl rfl (one_of HT_.out (by kernel_rfl)) (by decide) (fun K hK => ?_)
         refine box_step ?hg (N := 5) ?hd (cs := #[.int .u8 0, .int .i64 0, .int .i64 0, .int .i64 0, .int .i64 0]) (t := 31) ?hr ?_; (case hd => rfl); (case hg => rfl); (case hr => first | (go_simp; done) | (go_simp; rfl))
         intro gb187 hg w34 hbox hb
         obtain ⟨HO154, HO166, HO178, BK163, BK175, HB, BK187, GW187, GE187, NB163_187, NB187_163, NB175_187, NB187_175⟩ := And.intro (Aside0.mk (Kd.R_below (by (with_reducible repeat (first | apply Kd.R_alloc | apply Kd.R_drewN | apply Kd.R_drew)); exact HO154.out) hb)) (And.intro (Aside0.mk (Kd.R_below (by (with_reducible repeat (first | apply Kd.R_alloc | apply Kd.R_drewN | apply Kd.R_drew)); exact HO166.out) hb)) (And.intro (Aside0.mk (Kd.R_below (by (with_reducible repeat (first | apply Kd.R_alloc | apply Kd.R_drewN | apply Kd.R_drew)); exact HO178.out) hb)) (And.intro (Aside0.mk (blk_below (g := gb163) (o := .cells #[.int .u8 t157, .int .i64 t158, .int .i64 t159, .int .i64 t160, .int .i64 t161] 31 (0, 0)) (by (with_reducible repeat (first | refine blk_drewN ?_ _ | refine blk_drew ?_ | refine blk_alloc ?_ _)); exact BK163.out) hb)) (And.intro (Aside0.mk (blk_below (g := gb175) (o := .cells #[.int .u8 t169, .int .i64 t170, .int .i64 t171, .int .i64 t172, .int .i64 t173] 31 (0, 0)) (by (with_reducible repeat (first | refine blk_drewN ?_ _ | refine blk_drew ?_ | refine blk_alloc ?_ _)); exact BK175.out) hb)) (And.intro (Aside0.mk (below_step (by repeat (first | (with_reducible first | exact HB.out | apply below_alloc | apply pw_below_drewN | apply below_drew1 | refine below_set ?_ GE163.out | refine below_set ?_ GE175.out) | exact HB.out)) hb)) (And.intro (Aside0.mk (hbox)) (And.intro (Aside0.mk ((by rw [hg]; exact (below_size (by repeat (first | (with_reducible first | exact HB.out | apply below_alloc | apply pw_below_drewN | apply below_drew1 | refine below_set ?_ GE163.out | refine below_set ?_ GE175.out) | exact HB.out))) : w.heap.size ≤ gb187))) (And.intro (Aside0.mk ((by rw [hg]; exact (below_size (by repeat (first | (with_reducible first | exact HB.out | apply below_alloc | apply pw_below_drewN | apply below_drew1 | refine below_set ?_ GE163.out | refine below_set ?_ GE175.out) | exact HB.out))) : w.heap.size ≤ gb187))) (And.intro (Aside0.mk ((by rw [hg]; exact Nat.ne_of_lt (blk_lt (g := gb163) (o := .cells #[.int .u8 t157, .int .i64 t158, .int .i64 t159, .int .i64 t160, .int .i64 t161] 31 (0, 0)) (by (with_reducible repeat (first | refine blk_drewN ?_ _ | refine blk_drew ?_ | refine blk_alloc ?_ _)); exact BK163.out)) : gb163 ≠ gb187))) (And.intro (Aside0.mk ((by rw [hg]; exact Nat.ne_of_gt (blk_lt (g := gb163) (o := .cells #[.int .u8 t157, .int .i64 t158, .int .i64 t159, .int .i64 t160, .int .i64 t161] 31 (0, 0)) (by (with_reducible repeat (first | refine blk_drewN ?_ _ | refine blk_drew ?_ | refine blk_alloc ?_ _)); exact BK163.out)) : gb187 ≠ gb163))) (And.intro (Aside0.mk ((by rw [hg]; exact Nat.ne_of_lt (blk_lt (g := gb175) (o := .cells #[.int .u8 t169, .int .i64 t170, .int .i64 t171, .int .i64 t172, .int .i64 t173] 31 (0, 0)) (by (with_reducible repeat (first | refine blk_drewN ?_ _ | refine blk_drew ?_ | refine blk_alloc ?_ _)); exact BK175.out)) : gb175 ≠ gb187))) (Aside0.mk ((by rw [hg]; exact Nat.ne_of_gt (blk_lt (g := gb175) (o := .cells #[.int .u8 t169, .int .i64 t170, .int .i64 t171, .int .i64 t172, .int .i64 t173] 31 (0, 0)) (by (with_reducible repeat (first | refine blk_drewN ?_ _ | refine blk_drew ?_ | refine blk_alloc ?_ _)); exact BK175.out)) : gb187 ≠ gb175))))))))))))))
         clear hb hbox hg
         refine hK.out _ _ ⟨(blk_cell BK175.out 0).trans rfl, (blk_cell BK175.out 1).trans rfl, (blk_cell BK175.out 2).trans rfl, (blk_cell BK175.out 3).trans rfl, (blk_cell BK175.out 4).trans rfl⟩ (fun hHeld => ?_)
         clear hK K
         refine norm_ (a' := ?_) ?_ ?_
         rotate_left
         ·
          show Act.put _ (some 5) _ = _
          simp only [Act.put, sa_, s0_, s1_, i64_w, i32_w]
          rfl
         exact norm_ (by simp only [putAll, Act.put, sa_, s0_, s1_]) (hCont (.slice Ao32 t176.length co32, gb187) _ ⟨hHeld, (by (with_reducible repeat (first | apply Kd.R_alloc | apply Kd.R_drewN | apply Kd.R_drew)); exact HO154.out), (by (with_reducible repeat (first | apply Kd.R_alloc | apply Kd.R_drewN | apply Kd.R_drew)); exact HO166.out), (by (with_reducible repeat (first | apply Kd.R_alloc | apply Kd.R_drewN | apply Kd.R_drew)); exact Kd.R_mono HO178.out (fun _ hk => ⟨hk.1.2, hk.2⟩)), (by (with_reducible repeat (first | refine blk_drewN ?_ _ | refine blk_drew ?_ | refine blk_alloc ?_ _)); exact BK163.out), (by (with_reducible repeat (first | refine blk_drewN ?_ _ | refine blk_drew ?_ | refine blk_alloc ?_ _)); exact BK175.out), (by (with_reducible repeat (first | refine blk_drewN ?_ _ | refine blk_drew ?_ | refine blk_alloc ?_ _)); exact BK187.out), GW187.out, GE187.out, NB163_187.out, NB187_163.out, NB175_187.out, NB187_175.out, (by repeat (first | (with_reducible first | exact HB.out | apply below_alloc | apply pw_below_drewN | apply below_drew1 | refine below_set ?_ GE163.out | refine below_set ?_ GE175.out | refine below_set ?_ GE187.out) | exact HB.out))⟩)
        ·
         skip
         refine box_step ?hg (N := 5) ?hd (cs := #[.int .u8 0, .int .i64 0, .int .i64 0, .int .i64 0, .int .i64 0]) (t := 31) ?hr ?_; (case hd => rfl); (case hg => rfl); (case hr => first | (go_simp; done) | (go_simp; rfl))
         intro gb187 hg w32 hbox hb
         obtain ⟨HO154, HO166, HO178, BK163, BK175, HB, BK187, GW187, GE187, NB163_187, NB187_163, NB175_187, NB187_175⟩ := And.intro (Aside0.mk (Kd.R_below (by (with_reducible repeat (first | apply Kd.R_alloc | apply Kd.R_drewN | apply Kd.R_drew)); exact HO154.out) hb)) (And.intro (Aside0.mk (Kd.R_below (by (with_reducible repeat (first | apply Kd.R_alloc | apply Kd.R_drewN | apply Kd.R_drew)); exact HO166.out) hb)) (And.intro (Aside0.mk (Kd.R_below (by (with_reducible repeat (first | apply Kd.R_alloc | apply Kd.R_drewN | apply Kd.R_drew)); exact HO178.out) hb)) (And.intro (Aside0.mk (blk_below (g := gb163) (o := .cells #[.int .u8 t157, .int .i64 t158, .int .i64 t159, .int .i64 t160, .int .i64 t161] 31 (0, 0)) (by (with_reducible repeat (first | refine blk_drewN ?_ _ | refine blk_drew ?_ | refine blk_alloc ?_ _)); exact BK163.out) hb)) (And.intro (Aside0.mk (blk_below (g := gb175) (o := .cells #[.int .u8 t169, .int .i64 t170, .int .i64 t171, .int .i64 t172, .int .i64 t173] 31 (0, 0)) (by (with_reducible repeat (first | refine blk_drewN ?_ _ | refine blk_drew ?_ | refine blk_alloc ?_ _)); exact BK175.out) hb)) (And.intro (Aside0.mk (below_step (by repeat (first | (with_reducible first | exact HB.out | apply below_alloc | apply pw_below_drewN | apply below_drew1 | refine below_set ?_ GE163.out | refine below_set ?_ GE175.out) | exact HB.out)) hb)) (And.intro (Aside0.mk (hbox)) (And.intro (Aside0.mk ((by rw [hg]; exact (below_size (by repeat (first | (with_reducible first | exact HB.out | apply below_alloc | apply pw_below_drewN | apply below_drew1 | refine below_set ?_ GE163.out | refine below_set ?_ GE175.out) | exact HB.out))) : w.heap.size ≤ gb187))) (And.intro (Aside0.mk ((by rw [hg]; exact (below_size (by repeat (first | (with_reducible first | exact HB.out | apply below_alloc | apply pw_below_drewN | apply below_drew1 | refine below_set ?_ GE163.out | refine below_set ?_ GE175.out) | exact HB.out))) : w.heap.size ≤ gb187))) (And.intro (Aside0.mk ((by rw [hg]; exact Nat.ne_of_lt (blk_lt (g := gb163) (o := .cells #[.int .u8 t157, .int .i64 t158, .int .i64 t159, .int .i64 t160, .int .i64 t161] 31 (0, 0)) (by (with_reducible repeat (first | refine blk_drewN ?_ _ | refine blk_drew ?_ | refine blk_alloc ?_ _)); exact BK163.out)) : gb163 ≠ gb187))) (And.intro (Aside0.mk ((by rw [hg]; exact Nat.ne_of_gt (blk_lt (g := gb163) (o := .cells #[.int .u8 t157, .int .i64 t158, .int .i64 t159, .int .i64 t160, .int .i64 t161] 31 (0, 0)) (by (with_reducible repeat (first | refine blk_drewN ?_ _ | refine blk_drew ?_ | refine blk_alloc ?_ _)); exact BK163.out)) : gb187 ≠ gb163))) (And.intro (Aside0.mk ((by rw [hg]; exact Nat.ne_of_lt (blk_lt (g := gb175) (o := .cells #[.int .u8 t169, .int .i64 t170, .int .i64 t171, .int .i64 t172, .int .i64 t173] 31 (0, 0)) (by (with_reducible repeat (first | refine blk_drewN ?_ _ | refine blk_drew ?_ | refine blk_alloc ?_ _)); exact BK175.out)) : gb175 ≠ gb187))) (Aside0.mk ((by rw [hg]; exact Nat.ne_of_gt (blk_lt (g := gb175) (o := .cells #[.int .u8 t169, .int .i64 t170, .int .i64 t171, .int .i64 t172, .int .i64 t173] 31 (0, 0)) (by (with_reducible repeat (first | refine blk_drewN ?_ _ | refine blk_drew ?_ | refine blk_alloc ?_ _)); exact BK175.out)) : gb187 ≠ gb175))))))))))))))
         clear hb hbox hg
         obtain ⟨Ao33, co33, eo33⟩ := Kd.R_slice HO178.out
         (first | subst eo33 | (injection eo33 with f1_ f2_ f3_; have f4_ := f1_.symm; have f5_ := f3_.symm; clear f1_ f2_ f3_; subst f4_; subst f5_))
         refine hK.out _ _ ⟨(blk_cell BK175.out 0).trans rfl, (blk_cell BK175.out 1).trans rfl, (blk_cell BK175.out 2).trans rfl, (blk_cell BK175.out 3).trans rfl, (blk_cell BK175.out 4).trans rfl⟩ (fun hHeld => ?_)
         clear hK K
         refine norm_ (a' := ?_) ?_ ?_
         rotate_left
         ·
          show Act.put _ (some 5) _ = _
          simp only [Act.put, sa_, s0_, s1_, i64_w, i32_w]
          rfl
         refine one_ (i := 2) (N := some 22) (b_ 9 71) rfl rfl (one_of HT_.out (by kernel_rfl)) (by decide) (fun K hK => ?_)
         refine goes_ Try.func22 (by kernel_rfl) rfl #[.agg #[.slice Ao33 t176.length co33, .int .i64 t179, .int .i64 t180], .agg #[.int .u8 t169, .int .i64 t170, .int .i64 t171, .int .i64 t172, .int .i64 t173], .int .i64 4, .int .i64 12] (by rfl) rfl rfl (by (try simp only [List.map_toArray, List.map_cons, List.map_nil]); first | done | rfl | (simp only [List.length_drop, List.length_take]; rfl)) ?_
         with_reducible refine (task_Fail.calls k _ _ t176 t179 t180 t169 t170 t171 t172 t173 4 12 t181 t182 t183 t184 t185 t186 _ ?side1 ?side2 A6.out).mono ?_
         (case side1 => repeat (first | exact (Kd.R_reads' HO178.out).2.2 | (with_reducible refine Kd.C_alloc ?_ _) | (with_reducible refine Kd.C_drewN ?_ _) | (with_reducible refine Kd.C_drew ?_)))
         (case side2 => exact (Kd.R_reads' HO178.out).2.1)
         rintro e w34 ⟨rfl, hb⟩
         refine ⟨_, rfl, ?_⟩
         obtain ⟨HO154, HO166, HO178, BK163, BK175, BK187, HB⟩ := And.intro (Aside0.mk (Kd.R_below (by (with_reducible repeat (first | apply Kd.R_alloc | apply Kd.R_drewN | apply Kd.R_drew)); exact HO154.out) hb)) (And.intro (Aside0.mk (Kd.R_below (by (with_reducible repeat (first | apply Kd.R_alloc | apply Kd.R_drewN | apply Kd.R_drew)); exact HO166.out) hb)) (And.intro (Aside0.mk (Kd.R_below (by (with_reducible repeat (first | apply Kd.R_alloc | apply Kd.R_drewN | apply Kd.R_drew)); exact HO178.out) hb)) (And.intro (Aside0.mk (blk_below (g := gb163) (o := .cells #[.int .u8 t157, .int .i64 t158, .int .i64 t159, .int .i64 t160, .int .i64 t161] 31 (0, 0)) (by (with_reducible repeat (first | refine blk_drewN ?_ _ | refine blk_drew ?_ | refine blk_alloc ?_ _)); exact BK163.out) hb)) (And.intro (Aside0.mk (blk_below (g := gb175) (o := .cells #[.int .u8 t169, .int .i64 t170, .int .i64 t171, .int .i64 t172, .int .i64 t173] 31 (0, 0)) (by (with_reducible repeat (first | refine blk_drewN ?_ _ | refine blk_drew ?_ | refine blk_alloc ?_ _)); exact BK175.out) hb)) (And.intro (Aside0.mk (blk_below (g := gb187) (o := .cells #[.int .u8 0, .int .i64 0, .int .i64 0, .int .i64 0, .int .i64 0] 31 (0, 0)) (by (with_reducible repeat (first | refine blk_drewN ?_ _ | refine blk_drew ?_ | refine blk_alloc ?_ _)); exact BK187.out) hb)) (Aside0.mk (below_step (by repeat (first | (with_reducible first | exact HB.out | apply below_alloc | apply pw_below_drewN | apply below_drew1 | refine below_set ?_ GE163.out | refine below_set ?_ GE175.out | refine below_set ?_ GE187.out) | exact HB.out)) hb)))))))
         (try clear hb)
         (try clear hb2)
         (try clear hk)
         (try clear hi)
         refine hK.out _ _ ⟨(blk_cell BK175.out 0).trans rfl, (blk_cell BK175.out 1).trans rfl, (blk_cell BK175.out 2).trans rfl, (blk_cell BK175.out 3).trans rfl, (blk_cell BK175.out 4).trans rfl⟩ (fun hHeld => ?_)
         clear hK K
         refine norm_ (a' := ?_) ?_ ?_
         rotate_left
         ·
          show Act.put _ (some 22) _ = _
          simp only [Act.put, sa_, s0_, s1_, i64_w, i32_w]
          rfl
         refine pA_ 3 19 ?_ (b_ 9 79) (any_of HT_.out (by kernel_rfl)) rfl rfl (fun _ _ _ h => h) (by rfl) ?_ ?_ ?_ ?_
         rotate_left
         ·
          intro w'
          go_simp
          with_reducible rfl
         rotate_left
         ·
          simp only [Act.put, sa_, s0_, s1_, i64_w, i32_w]
          rfl
         refine pA_ 4 23 ?_ (b_ 9 95) (any_of HT_.out (by kernel_rfl)) rfl rfl (fun _ _ _ h => h) (by rfl) ?_ ?_ ?_ ?_
         rotate_left
         ·
          intro w'
          go_simp
          with_reducible rfl
         rotate_left
         ·
          simp only [Act.put, sa_, s0_, s1_, i64_w, i32_w]
          rfl
         refine pA_ 5 24 ?_ (b_ 9 127) (any_of HT_.out (by kernel_rfl)) rfl rfl (fun _ _ _ h => h) (by rfl) ?_ ?_ ?_ ?_
         rotate_left
         ·
          intro w'
          go_simp
          with_reducible rfl
         rotate_left
         ·
          simp only [Act.put, sa_, s0_, s1_, i64_w, i32_w]
          rfl
         exact norm_ (by simp only [putAll, Act.put, sa_, s0_, s1_]) (hCont (.slice Ao33 t176.length co33, gb187) _ ⟨hHeld, (by (with_reducible repeat (first | apply Kd.R_alloc | apply Kd.R_drewN | apply Kd.R_drew)); exact HO154.out), (by (with_reducible repeat (first | apply Kd.R_alloc | apply Kd.R_drewN | apply Kd.R_drew)); exact HO166.out), (by (with_reducible repeat (first | apply Kd.R_alloc | apply Kd.R_drewN | apply Kd.R_drew)); exact Kd.R_mono HO178.out (fun _ hk => ⟨hk.1.2, hk.2⟩)), (by (with_reducible repeat (first | refine blk_drewN ?_ _ | refine blk_drew ?_ | refine blk_alloc ?_ _)); exact BK163.out), (by (with_reducible repeat (first | refine blk_drewN ?_ _ | refine blk_drew ?_ | refine blk_alloc ?_ _)); exact BK175.out), (by (with_reducible repeat (first | refine blk_drewN ?_ _ | refine blk_drew ?_ | refine blk_alloc ?_ _)); exact BK187.out), GW187.out, GE187.out, NB163_187.out, NB187_163.out, NB175_187.out, NB187_175.out, (by repeat (first | (with_reducible first | exact HB.out | apply below_alloc | apply pw_below_drewN | apply below_drew1 | refine below_set ?_ GE163.out | refine below_set ?_ GE175.out | refine below_set ?_ GE187.out) | exact HB.out))⟩)
       ·
        skip
        refine box_step ?hg (N := 5) ?hd (cs := #[.int .u8 0, .int .i64 0, .int .i64 0, .int .i64 0, .int .i64 0]) (t := 31) ?hr ?_; (case hd => rfl); (case hg => rfl); (case hr => first | (go_simp; done) | (go_simp; rfl))
        intro gb187 hg w31 hbox hb
        obtain ⟨HO154, HO166, BK163, BK175, HB, BK187, GW187, GE187, NB163_187, NB187_163, NB175_187, NB187_175⟩ := And.intro (Aside0.mk (Kd.R_below (by (with_reducible repeat (first | apply Kd.R_alloc | apply Kd.R_drewN | apply Kd.R_drew)); exact HO154.out) hb)) (And.intro (Aside0.mk (Kd.R_below (by (with_reducible repeat (first | apply Kd.R_alloc | apply Kd.R_drewN | apply Kd.R_drew)); exact HO166.out) hb)) (And.intro (Aside0.mk (blk_below (g := gb163) (o := .cells #[.int .u8 t157, .int .i64 t158, .int .i64 t159, .int .i64 t160, .int .i64 t161] 31 (0, 0)) (by (with_reducible repeat (first | refine blk_drewN ?_ _ | refine blk_drew ?_ | refine blk_alloc ?_ _)); exact BK163.out) hb)) (And.intro (Aside0.mk (blk_below (g := gb175) (o := .cells #[.int .u8 t169, .int .i64 t170, .int .i64 t171, .int .i64 t172, .int .i64 t173] 31 (0, 0)) (by (with_reducible repeat (first | refine blk_drewN ?_ _ | refine blk_drew ?_ | refine blk_alloc ?_ _)); exact BK175.out) hb)) (And.intro (Aside0.mk (below_step (by repeat (first | (with_reducible first | exact HB.out | apply below_alloc | apply pw_below_drewN | apply below_drew1 | refine below_set ?_ GE163.out | refine below_set ?_ GE175.out) | exact HB.out)) hb)) (And.intro (Aside0.mk (hbox)) (And.intro (Aside0.mk ((by rw [hg]; exact (below_size (by repeat (first | (with_reducible first | exact HB.out | apply below_alloc | apply pw_below_drewN | apply below_drew1 | refine below_set ?_ GE163.out | refine below_set ?_ GE175.out) | exact HB.out))) : w.heap.size ≤ gb187))) (And.intro (Aside0.mk ((by rw [hg]; exact (below_size (by repeat (first | (with_reducible first | exact HB.out | apply below_alloc | apply pw_below_drewN | apply below_drew1 | refine below_set ?_ GE163.out | refine below_set ?_ GE175.out) | exact HB.out))) : w.heap.size ≤ gb187))) (And.intro (Aside0.mk ((by rw [hg]; exact Nat.ne_of_lt (blk_lt (g := gb163) (o := .cells #[.int .u8 t157, .int .i64 t158, .int .i64 t159, .int .i64 t160, .int .i64 t161] 31 (0, 0)) (by (with_reducible repeat (first | refine blk_drewN ?_ _ | refine blk_drew ?_ | refine blk_alloc ?_ _)); exact BK163.out)) : gb163 ≠ gb187))) (And.intro (Aside0.mk ((by rw [hg]; exact Nat.ne_of_gt (blk_lt (g := gb163) (o := .cells #[.int .u8 t157, .int .i64 t158, .int .i64 t159, .int .i64 t160, .int .i64 t161] 31 (0, 0)) (by (with_reducible repeat (first | refine blk_drewN ?_ _ | refine blk_drew ?_ | refine blk_alloc ?_ _)); exact BK163.out)) : gb187 ≠ gb163))) (And.intro (Aside0.mk ((by rw [hg]; exact Nat.ne_of_lt (blk_lt (g := gb175) (o := .cells #[.int .u8 t169, .int .i64 t170, .int .i64 t171, .int .i64 t172, .int .i64 t173] 31 (0, 0)) (by (with_reducible repeat (first | refine blk_drewN ?_ _ | refine blk_drew ?_ | refine blk_alloc ?_ _)); exact BK175.out)) : gb175 ≠ gb187))) (Aside0.mk ((by rw [hg]; exact Nat.ne_of_gt (blk_lt (g := gb175) (o := .cells #[.int .u8 t169, .int .i64 t170, .int .i64 t171, .int .i64 t172, .int .i64 t173] 31 (0, 0)) (by (with_reducible repeat (first | refine blk_drewN ?_ _ | refine blk_drew ?_ | refine blk_alloc ?_ _)); exact BK175.out)) : gb187 ≠ gb175)))))))))))))
        clear hb hbox hg
        refine hK.out _ _ ⟨(blk_cell BK175.out 0).trans rfl, (blk_cell BK175.out 1).trans rfl, (blk_cell BK175.out 2).trans rfl, (blk_cell BK175.out 3).trans rfl, (blk_cell BK175.out 4).trans rfl⟩ (fun hHeld => ?_)
        clear hK K
        refine norm_ (a' := ?_) ?_ ?_
        rotate_left
        ·
         show Act.put _ (some 5) _ = _
         simp only [Act.put, sa_, s0_, s1_, i64_w, i32_w]
         rfl
        refine one_ (i := 0) (N := some 20) (b_ 9 67) rfl rfl (one_of HT_.out (by kernel_rfl)) (by decide) (fun K hK => ?_)
        refine goes_ Try.func11 (by kernel_rfl) rfl #[] (by rfl) rfl rfl (by (try simp only [List.map_toArray, List.map_cons, List.map_nil]); first | done | rfl | (simp only [List.length_drop, List.length_take]; rfl)) ?_
        with_reducible refine (millhandlaw24_node.calls  t176 t179 t180 _ A5.out).mono ?_
        rintro e w32 ⟨v177, rfl, ho0, hb⟩
        refine ⟨_, rfl, ?_⟩
        obtain ⟨HO154, HO166, HO178, BK163, BK175, BK187, HB⟩ := And.intro (Aside0.mk (Kd.R_elder' (by (with_reducible repeat (first | apply Kd.R_alloc | apply Kd.R_drewN | apply Kd.R_drew)); exact HO154.out) (Kd.R_base ho0) hb)) (And.intro (Aside0.mk (Kd.R_elder' (by (with_reducible repeat (first | apply Kd.R_alloc | apply Kd.R_drewN | apply Kd.R_drew)); exact HO166.out) (Kd.R_base ho0) hb)) (And.intro (Aside0.mk (Kd.R_lower (Kd.R_new' (Kd.R_new' ho0 (Kd.R_lt (by (with_reducible repeat (first | apply Kd.R_alloc | apply Kd.R_drewN | apply Kd.R_drew)); exact HO154.out))) (Kd.R_lt (by (with_reducible repeat (first | apply Kd.R_alloc | apply Kd.R_drewN | apply Kd.R_drew)); exact HO166.out))) (below_size (by repeat (first | (with_reducible first | exact HB.out | apply below_alloc | apply pw_below_drewN | apply below_drew1 | refine below_set ?_ GE163.out | refine below_set ?_ GE175.out | refine below_set ?_ GE187.out) | exact HB.out))))) (And.intro (Aside0.mk (blk_below (g := gb163) (o := .cells #[.int .u8 t157, .int .i64 t158, .int .i64 t159, .int .i64 t160, .int .i64 t161] 31 (0, 0)) (by (with_reducible repeat (first | refine blk_drewN ?_ _ | refine blk_drew ?_ | refine blk_alloc ?_ _)); exact BK163.out) hb)) (And.intro (Aside0.mk (blk_below (g := gb175) (o := .cells #[.int .u8 t169, .int .i64 t170, .int .i64 t171, .int .i64 t172, .int .i64 t173] 31 (0, 0)) (by (with_reducible repeat (first | refine blk_drewN ?_ _ | refine blk_drew ?_ | refine blk_alloc ?_ _)); exact BK175.out) hb)) (And.intro (Aside0.mk (blk_below (g := gb187) (o := .cells #[.int .u8 0, .int .i64 0, .int .i64 0, .int .i64 0, .int .i64 0] 31 (0, 0)) (by (with_reducible repeat (first | refine blk_drewN ?_ _ | refine blk_drew ?_ | refine blk_alloc ?_ _)); exact BK187.out) hb)) (Aside0.mk (below_step (by repeat (first | (with_reducible first | exact HB.out | apply below_alloc | apply pw_below_drewN | apply below_drew1 | refine below_set ?_ GE163.out | refine below_set ?_ GE175.out | refine below_set ?_ GE187.out) | exact HB.out)) hb)))))))
        (try clear hb)
        (try clear hb2)
        (try clear hk)
        (try clear hi)
        (try clear ho0)
        obtain ⟨Ao33, co33, eo33⟩ := Kd.R_slice HO178.out
        (first | subst eo33 | (injection eo33 with f1_ f2_ f3_; have f4_ := f1_.symm; have f5_ := f3_.symm; clear f1_ f2_ f3_; subst f4_; subst f5_))
        refine hK.out _ _ ⟨(blk_cell BK175.out 0).trans rfl, (blk_cell BK175.out 1).trans rfl, (blk_cell BK175.out 2).trans rfl, (blk_cell BK175.out 3).trans rfl, (blk_cell BK175.out 4).trans rfl⟩ (fun hHeld => ?_)
        clear hK K
        refine norm_ (a' := ?_) ?_ ?_
        rotate_left
        ·
         show Act.put _ (some 20) _ = _
         simp only [Act.put, sa_, s0_, s1_, i64_w, i32_w]
         rfl
        refine one_ (i := 2) (N := some 22) (b_ 9 71) rfl rfl (one_of HT_.out (by kernel_rfl)) (by decide) (fun K hK => ?_)
        refine goes_ Try.func22 (by kernel_rfl) rfl #[.agg #[.slice Ao33 t176.length co33, .int .i64 t179, .int .i64 t180], .agg #[.int .u8 t169, .int .i64 t170, .int .i64 t171, .int .i64 t172, .int .i64 t173], .int .i64 4, .int .i64 12] (by rfl) rfl rfl (by (try simp only [List.map_toArray, List.map_cons, List.map_nil]); first | done | rfl | (simp only [List.length_drop, List.length_take]; rfl)) ?_
        with_reducible refine (task_Fail.calls k _ _ t176 t179 t180 t169 t170 t171 t172 t173 4 12 t181 t182 t183 t184 t185 t186 _ ?side1 ?side2 A6.out).mono ?_
        (case side1 => repeat (first | exact (Kd.R_reads' HO178.out).2.2 | (with_reducible refine Kd.C_alloc ?_ _) | (with_reducible refine Kd.C_drewN ?_ _) | (with_reducible refine Kd.C_drew ?_)))
        (case side2 => exact (Kd.R_reads' HO178.out).2.1)
        rintro e w34 ⟨rfl, hb⟩
        refine ⟨_, rfl, ?_⟩
        obtain ⟨HO154, HO166, HO178, BK163, BK175, BK187, HB⟩ := And.intro (Aside0.mk (Kd.R_below (by (with_reducible repeat (first | apply Kd.R_alloc | apply Kd.R_drewN | apply Kd.R_drew)); exact HO154.out) hb)) (And.intro (Aside0.mk (Kd.R_below (by (with_reducible repeat (first | apply Kd.R_alloc | apply Kd.R_drewN | apply Kd.R_drew)); exact HO166.out) hb)) (And.intro (Aside0.mk (Kd.R_below (by (with_reducible repeat (first | apply Kd.R_alloc | apply Kd.R_drewN | apply Kd.R_drew)); exact HO178.out) hb)) (And.intro (Aside0.mk (blk_below (g := gb163) (o := .cells #[.int .u8 t157, .int .i64 t158, .int .i64 t159, .int .i64 t160, .int .i64 t161] 31 (0, 0)) (by (with_reducible repeat (first | refine blk_drewN ?_ _ | refine blk_drew ?_ | refine blk_alloc ?_ _)); exact BK163.out) hb)) (And.intro (Aside0.mk (blk_below (g := gb175) (o := .cells #[.int .u8 t169, .int .i64 t170, .int .i64 t171, .int .i64 t172, .int .i64 t173] 31 (0, 0)) (by (with_reducible repeat (first | refine blk_drewN ?_ _ | refine blk_drew ?_ | refine blk_alloc ?_ _)); exact BK175.out) hb)) (And.intro (Aside0.mk (blk_below (g := gb187) (o := .cells #[.int .u8 0, .int .i64 0, .int .i64 0, .int .i64 0, .int .i64 0] 31 (0, 0)) (by (with_reducible repeat (first | refine blk_drewN ?_ _ | refine blk_drew ?_ | refine blk_alloc ?_ _)); exact BK187.out) hb)) (Aside0.mk (below_step (by repeat (first | (with_reducible first | exact HB.out | apply below_alloc | apply pw_below_drewN | apply below_drew1 | refine below_set ?_ GE163.out | refine below_set ?_ GE175.out | refine below_set ?_ GE187.out) | exact HB.out)) hb)))))))
        (try clear hb)
        (try clear hb2)
        (try clear hk)
        (try clear hi)
        refine hK.out _ _ ⟨(blk_cell BK175.out 0).trans rfl, (blk_cell BK175.out 1).trans rfl, (blk_cell BK175.out 2).trans rfl, (blk_cell BK175.out 3).trans rfl, (blk_cell BK175.out 4).trans rfl⟩ (fun hHeld => ?_)
        clear hK K
        refine norm_ (a' := ?_) ?_ ?_
        rotate_left
        ·
         show Act.put _ (some 22) _ = _
         simp only [Act.put, sa_, s0_, s1_, i64_w, i32_w]
         rfl
        refine pA_ 3 19 ?_ (b_ 9 79) (any_of HT_.out (by kernel_rfl)) rfl rfl (fun _ _ _ h => h) (by rfl) ?_ ?_ ?_ ?_
        rotate_left
        ·
         intro w'
         go_simp
         with_reducible rfl
        rotate_left
        ·
         simp only [Act.put, sa_, s0_, s1_, i64_w, i32_w]
         rfl
        refine pA_ 4 23 ?_ (b_ 9 95) (any_of HT_.out (by kernel_rfl)) rfl rfl (fun _ _ _ h => h) (by rfl) ?_ ?_ ?_ ?_
        rotate_left
        ·
         intro w'
         go_simp
         with_reducible rfl
        rotate_left
        ·
         simp only [Act.put, sa_, s0_, s1_, i64_w, i32_w]
         rfl
        refine pA_ 5 24 ?_ (b_ 9 127) (any_of HT_.out (by kernel_rfl)) rfl rfl (fun _ _ _ h => h) (by rfl) ?_ ?_ ?_ ?_
        rotate_left
        ·
         intro w'
         go_simp
         with_reducible rfl
        rotate_left
        ·
         simp only [Act.put, sa_, s0_, s1_, i64_w, i32_w]
         rfl
        exact norm_ (by simp only [putAll, Act.put, sa_, s0_, s1_]) (hCont (.slice Ao33 t176.length co33, gb187) _ ⟨hHeld, (by (with_reducible repeat (first | apply Kd.R_alloc | apply Kd.R_drewN | apply Kd.R_drew)); exact HO154.out), (by (with_reducible repeat (first | apply Kd.R_alloc | apply Kd.R_drewN | apply Kd.R_drew)); exact HO166.out), (by (with_reducible repeat (first | apply Kd.R_alloc | apply Kd.R_drewN | apply Kd.R_drew)); exact Kd.R_mono HO178.out (fun _ hk => ⟨hk.1.2, hk.2⟩)), (by (with_reducible repeat (first | refine blk_drewN ?_ _ | refine blk_drew ?_ | refine blk_alloc ?_ _)); exact BK163.out), (by (with_reducible repeat (first | refine blk_drewN ?_ _ | refine blk_drew ?_ | refine blk_alloc ?_ _)); exact BK175.out), (by (with_reducible repeat (first | refine blk_drewN ?_ _ | refine blk_drew ?_ | refine blk_alloc ?_ _)); exact BK187.out), GW187.out, GE187.out, NB163_187.out, NB187_163.out, NB175_187.out, NB187_175.out, (by repeat (first | (with_reducible first | exact HB.out | apply below_alloc | apply pw_below_drewN | apply below_drew1 | refine below_set ?_ GE163.out | refine below_set ?_ GE175.out | refine below_set ?_ GE187.out) | exact HB.out))⟩)
      rintro ⟨v177, gb187⟩ w35 ⟨hS_, h0_, h1_, h2_, h3_, h4_, h5_, h6_, h7_, h8_, h9_, h10_, h11_, h12_⟩
      have n0_ : Aside0 (Kd.R (Kd.int .i64) 3 w35 w.heap.size (fun k_ => some k_ ≠ (v165 : Value).ownBlock ∧ some k_ ≠ (v177 : Value).ownBlock) (.slice Ao13 t152.length co13) t152) := ⟨h0_⟩
      have n1_ : Aside0 (Kd.R (Kd.int .i64) 3 w35 w.heap.size (fun k_ => some k_ ≠ (.slice Ao13 t152.length co13 : Value).ownBlock ∧ some k_ ≠ (v177 : Value).ownBlock) v165 t164) := ⟨h1_⟩
      have n2_ : Aside0 (Kd.R (Kd.int .i64) 3 w35 w.heap.size (fun k_ => some k_ ≠ (.slice Ao13 t152.length co13 : Value).ownBlock ∧ some k_ ≠ (v165 : Value).ownBlock) v177 t176) := ⟨h2_⟩
      have n3_ : Aside0 (w35.heap[gb163]? = some (.cells #[.int .u8 t157, .int .i64 t158, .int .i64 t159, .int .i64 t160, .int .i64 t161] 31 (0, 0))) := ⟨h3_⟩
      have n4_ : Aside0 (w35.heap[gb175]? = some (.cells #[.int .u8 t169, .int .i64 t170, .int .i64 t171, .int .i64 t172, .int .i64 t173] 31 (0, 0))) := ⟨h4_⟩
      have n5_ : Aside0 (w35.heap[gb187]? = some (.cells #[.int .u8 0, .int .i64 0, .int .i64 0, .int .i64 0, .int .i64 0] 31 (0, 0))) := ⟨h5_⟩
      have n6_ : Aside0 (w.heap.size ≤ gb187) := ⟨h6_⟩
      have n7_ : Aside0 (w.heap.size ≤ gb187) := ⟨h7_⟩
      have n8_ : Aside0 (gb163 ≠ gb187) := ⟨h8_⟩
      have n9_ : Aside0 (gb187 ≠ gb163) := ⟨h9_⟩
      have n10_ : Aside0 (gb175 ≠ gb187) := ⟨h10_⟩
      have n11_ : Aside0 (gb187 ≠ gb175) := ⟨h11_⟩
      have n12_ : Aside0 (Below w.heap.size w w35) := ⟨h12_⟩
      clear HO154
      clear HO166
      clear BK163
      clear BK175
      clear HB
      clear h0_ h1_ h2_ h3_ h4_ h5_ h6_ h7_ h8_ h9_ h10_ h11_ h12_
      have HO154 := n0_
      have HO166 := n1_
      have HO178 := n2_
      have BK163 := n3_
      have BK175 := n4_
      have BK187 := n5_
      have GW187 := n6_
      have GE187 := n7_
      have NB163_187 := n8_
      have NB187_163 := n9_
      have NB175_187 := n10_
      have NB187_175 := n11_
      have HB := n12_
      clear n0_ n1_ n2_ n3_ n4_ n5_ n6_ n7_ n8_ n9_ n10_ n11_ n12_
      have hHeld : w35.cell? ⟨gb175, 0, none⟩ = some (.int .u8 t169) ∧ w35.cell? ⟨gb175, 1, none⟩ = some (.int .i64 t170) ∧ w35.cell? ⟨gb175, 2, none⟩ = some (.int .i64 t171) ∧ w35.cell? ⟨gb175, 3, none⟩ = some (.int .i64 t172) ∧ w35.cell? ⟨gb175, 4, none⟩ = some (.int .i64 t173) := hS_
      refine norm_ (a' := ?_) ?_ ?_
      rotate_left
      ·
       simp only [putAll, Act.put, sa_, s0_, s1_]
       rfl
      refine one_ (i := 7) (N := none) (b_ 9 255) rfl rfl (one_of HT_.out (by kernel_rfl)) (by decide) (fun K hK => ?_)
      have hs36 : w35.cell? ⟨gb187, 0, none⟩ = some (.int .u8 0) := (blk_cell BK187.out 0).trans rfl
      have hfs36 := blk_frozen BK187.out 0
      have hns36_0 := NB163_187.out
      have hns36_1 := NB175_187.out
      have hms36_0 := NB187_163.out
      have hms36_1 := NB187_175.out
      have hs37 : w35.cell? ⟨gb187, 1, none⟩ = some (.int .i64 0) := (blk_cell BK187.out 1).trans rfl
      have hfs37 := blk_frozen BK187.out 1
      have hns37_0 := NB163_187.out
      have hns37_1 := NB175_187.out
      have hms37_0 := NB187_163.out
      have hms37_1 := NB187_175.out
      have hs38 : w35.cell? ⟨gb187, 2, none⟩ = some (.int .i64 0) := (blk_cell BK187.out 2).trans rfl
      have hfs38 := blk_frozen BK187.out 2
      have hns38_0 := NB163_187.out
      have hns38_1 := NB175_187.out
      have hms38_0 := NB187_163.out
      have hms38_1 := NB187_175.out
      have hs39 : w35.cell? ⟨gb187, 3, none⟩ = some (.int .i64 0) := (blk_cell BK187.out 3).trans rfl
      have hfs39 := blk_frozen BK187.out 3
      have hns39_0 := NB163_187.out
      have hns39_1 := NB175_187.out
      have hms39_0 := NB187_163.out
      have hms39_1 := NB187_175.out
      have hs40 : w35.cell? ⟨gb187, 4, none⟩ = some (.int .i64 0) := (blk_cell BK187.out 4).trans rfl
      have hfs40 := blk_frozen BK187.out 4
      have hns40_0 := NB163_187.out
      have hns40_1 := NB175_187.out
      have hms40_0 := NB187_163.out
      have hms40_1 := NB187_175.out
      refine skip_ (w1 := ?_) (by rfl) rfl ?_ ?_
      rotate_left
      ·
       go_simp
       rfl
      refine hK.out _ _ ⟨((cell_far (p := ⟨gb187, _, none⟩) NB175_187.out _).trans (((cell_far (p := ⟨gb187, _, none⟩) NB175_187.out _).trans (((cell_far (p := ⟨gb187, _, none⟩) NB175_187.out _).trans (((cell_far (p := ⟨gb187, _, none⟩) NB175_187.out _).trans (((cell_far (p := ⟨gb187, _, none⟩) NB175_187.out _).trans (hHeld.1)))))))))), ((cell_far (p := ⟨gb187, _, none⟩) NB175_187.out _).trans (((cell_far (p := ⟨gb187, _, none⟩) NB175_187.out _).trans (((cell_far (p := ⟨gb187, _, none⟩) NB175_187.out _).trans (((cell_far (p := ⟨gb187, _, none⟩) NB175_187.out _).trans (((cell_far (p := ⟨gb187, _, none⟩) NB175_187.out _).trans (hHeld.2.1)))))))))), ((cell_far (p := ⟨gb187, _, none⟩) NB175_187.out _).trans (((cell_far (p := ⟨gb187, _, none⟩) NB175_187.out _).trans (((cell_far (p := ⟨gb187, _, none⟩) NB175_187.out _).trans (((cell_far (p := ⟨gb187, _, none⟩) NB175_187.out _).trans (((cell_far (p := ⟨gb187, _, none⟩) NB175_187.out _).trans (hHeld.2.2.1)))))))))), ((cell_far (p := ⟨gb187, _, none⟩) NB175_187.out _).trans (((cell_far (p := ⟨gb187, _, none⟩) NB175_187.out _).trans (((cell_far (p := ⟨gb187, _, none⟩) NB175_187.out _).trans (((cell_far (p := ⟨gb187, _, none⟩) NB175_187.out _).trans (((cell_far (p := ⟨gb187, _, none⟩) NB175_187.out _).trans (hHeld.2.2.2.1)))))))))), ((cell_far (p := ⟨gb187, _, none⟩) NB175_187.out _).trans (((cell_far (p := ⟨gb187, _, none⟩) NB175_187.out _).trans (((cell_far (p := ⟨gb187, _, none⟩) NB175_187.out _).trans (((cell_far (p := ⟨gb187, _, none⟩) NB175_187.out _).trans (((cell_far (p := ⟨gb187, _, none⟩) NB175_187.out _).trans (hHeld.2.2.2.2))))))))))⟩ (fun hHeld => ?_)
      clear hK K
      refine pA_ 8 6 ?_ (b_ 9 511) (any_of HT_.out (by kernel_rfl)) rfl rfl (fun _ _ _ h => h) (by rfl) ?_ ?_ ?_ ?_
      rotate_left
      ·
       intro w'
       go_simp
       with_reducible rfl
      rotate_left
      ·
       simp only [Act.put, sa_, s0_, s1_, i64_w, i32_w]
       rfl
      refine done_ (done_of HT_.out (by kernel_rfl)) ?_
      have hnb41 := NB163_175.out
      have hnc41 := NB175_163.out
      have hnb42 := NB163_187.out
      have hnc42 := NB187_163.out
      have hcz43_0 : w35.cell? ⟨gb163, 0, none⟩ = some (.int .u8 t157) := (blk_cell BK163.out 0).trans rfl
      have hcz43_1 : w35.cell? ⟨gb163, 1, none⟩ = some (.int .i64 t158) := (blk_cell BK163.out 1).trans rfl
      have hcz43_2 : w35.cell? ⟨gb163, 2, none⟩ = some (.int .i64 t159) := (blk_cell BK163.out 2).trans rfl
      have hcz43_3 : w35.cell? ⟨gb163, 3, none⟩ = some (.int .i64 t160) := (blk_cell BK163.out 3).trans rfl
      have hcz43_4 : w35.cell? ⟨gb163, 4, none⟩ = some (.int .i64 t161) := (blk_cell BK163.out 4).trans rfl
      have hfz43_0 := blk_frozen BK163.out 0
      have hfz43_1 := blk_frozen BK163.out 1
      have hfz43_2 := blk_frozen BK163.out 2
      have hfz43_3 := blk_frozen BK163.out 3
      have hfz43_4 := blk_frozen BK163.out 4
      have hnb44 := NB175_187.out
      have hnc44 := NB187_175.out
      have hcz45_0 : w35.cell? ⟨gb175, 0, none⟩ = some (.int .u8 t169) := (blk_cell BK175.out 0).trans rfl
      have hcz45_1 : w35.cell? ⟨gb175, 1, none⟩ = some (.int .i64 t170) := (blk_cell BK175.out 1).trans rfl
      have hcz45_2 : w35.cell? ⟨gb175, 2, none⟩ = some (.int .i64 t171) := (blk_cell BK175.out 2).trans rfl
      have hcz45_3 : w35.cell? ⟨gb175, 3, none⟩ = some (.int .i64 t172) := (blk_cell BK175.out 3).trans rfl
      have hcz45_4 : w35.cell? ⟨gb175, 4, none⟩ = some (.int .i64 t173) := (blk_cell BK175.out 4).trans rfl
      have hfz45_0 := blk_frozen BK175.out 0
      have hfz45_1 := blk_frozen BK175.out 1
      have hfz45_2 := blk_frozen BK175.out 2
      have hfz45_3 := blk_frozen BK175.out 3
      have hfz45_4 := blk_frozen BK175.out 4
      have hcz46_0 : w35.cell? ⟨gb187, 0, none⟩ = some (.int .u8 0) := (blk_cell BK187.out 0).trans rfl
      have hcz46_1 : w35.cell? ⟨gb187, 1, none⟩ = some (.int .i64 0) := (blk_cell BK187.out 1).trans rfl
      have hcz46_2 : w35.cell? ⟨gb187, 2, none⟩ = some (.int .i64 0) := (blk_cell BK187.out 2).trans rfl
      have hcz46_3 : w35.cell? ⟨gb187, 3, none⟩ = some (.int .i64 0) := (blk_cell BK187.out 3).trans rfl
      have hcz46_4 : w35.cell? ⟨gb187, 4, none⟩ = some (.int .i64 0) := (blk_cell BK187.out 4).trans rfl
      have hfz46_0 := blk_frozen BK187.out 0
      have hfz46_1 := blk_frozen BK187.out 1
      have hfz46_2 := blk_frozen BK187.out 2
      have hfz46_3 := blk_frozen BK187.out 3
      have hfz46_4 := blk_frozen BK187.out 4
      try go_wp2
      go_ret
      exact ⟨by first | rfl | (simp [errW_none, errW_some] <;> rfl) | (simp [*, errW_none, errW_some] <;> rfl) | exact ret_ie _ | (simp [*, errW_none, errW_some, bne]; done), by repeat (first | (with_reducible first | exact HB.out | apply below_alloc | apply pw_below_drewN | apply below_drew1 | refine below_set ?_ GE163.out | refine below_set ?_ GE175.out | refine below_set ?_ GE187.out) | exact HB.out)⟩
     ·
      rw [if_neg c11] at H
      have c11b0 : (t169 == 2 && (t170 == 1 && (t171 == 30 && (t172 == 4 && (t173 == 0))))) = false := by simpa using c11
      (try (have c11b1 : decide (t169 = 2 && (t170 == 1 && (t171 == 30 && (t172 == 4 && (t173 == 0))))) = false := by simpa using c11))
      (try (have c11b2 : (t169 == 2 && (t170 == 1 && (t171 == 30 && (t172 == 4 && (t173 == 0))))) = false := by simpa using c11))
      (try (have c11b3 : ¬ (t169 = 2 && (t170 == 1 && (t171 == 30 && (t172 == 4 && (t173 == 0))))) := by simpa using c11))
      clear c11
      exact absurd ((Option.some.inj H).trans hr) (by decide)
    ·
     rw [if_neg c10] at H
     have c10b0 : (t157 == 1 && (t158 == 0 && (t159 == 0 && (t160 == 0 && (t161 == 7))))) = false := by simpa using c10
     (try (have c10b1 : decide (t157 = 1 && (t158 == 0 && (t159 == 0 && (t160 == 0 && (t161 == 7))))) = false := by simpa using c10))
     (try (have c10b2 : (t157 == 1 && (t158 == 0 && (t159 == 0 && (t160 == 0 && (t161 == 7))))) = false := by simpa using c10))
     (try (have c10b3 : ¬ (t157 = 1 && (t158 == 0 && (t159 == 0 && (t160 == 0 && (t161 == 7))))) := by simpa using c10))
     clear c10
     exact absurd ((Option.some.inj H).trans hr) (by decide)
   ·
    rw [if_neg c9] at H
    have c9b0 : (t186 == 0) = false := beq_eq_false_iff_ne.mpr c9
    have c9b1 : (t186 != 0) = true := bne_iff_ne.mpr c9
    exact absurd ((Option.some.inj H).trans hr) (by decide)
  ·
   rw [if_neg c8] at H
   have c8b0 : (t174 == 0) = false := beq_eq_false_iff_ne.mpr c8
   have c8b1 : (t174 != 0) = true := bne_iff_ne.mpr c8
   exact absurd ((Option.some.inj H).trans hr) (by decide)
 ·
  rw [if_neg c7] at H
  have c7b0 : (t162 == 0) = false := beq_eq_false_iff_ne.mpr c7
  have c7b1 : (t162 != 0) = true := bne_iff_ne.mpr c7
  exact absurd ((Option.some.inj H).trans hr) (by decide)

end Go.Proofs.Ytbgfjhnbmfgccaa.R

/- Contracts of Go functions and what they come to, over the translation of this seat: made by a program of this session (print2.py). -/
import Derived.Test.YtdlghckcbbjipaaTi
import Derived.Test.YtdlghckcbbjipaaAw
import Derived.Test.YtdlghckcbbjipaaRx0
import Derived.Test.YtdlghckcbbjipaaRx5
namespace Go.Proofs.Ytdlghckcbbjipaa.R
open Go.RowKit Go.Proofs.Ytdlghckcbbjipaa.Ti Go.Proofs.Ytdlghckcbbjipaa.Co Go.Proofs.Ytdlghckcbbjipaa.Ret Go.Proofs.Ytdlghckcbbjipaa.Plain Go.Proofs.YtdlghckcbbjipaaW.PrintWords Go.Proofs.YtdlghckcbbjipaaW.PrintLast Go.Proofs.YtdlghckcbbjipaaW.PrintMore
attribute [local go_sem] max2_int min2_int max_two min_two max_three min_three max_four min_four   -- for this text's walks alone
set_option linter.unusedVariables false
set_option linter.unusedSimpArgs false

/-! ### millhandlaw16_two: function 31 -/
def millhandlaw16_two.f (k : Nat)  : Option ((List (List (S32))) × Int × Int × ByteArray × Bool) := (version_New.f (⟨#[108, 111, 103]⟩ : ByteArray)).bind fun bt164 => ((millhandlaw16_table.f (⟨#[97]⟩ : ByteArray) (⟨#[98]⟩ : ByteArray) (⟨#[100]⟩ : ByteArray)).bind fun bt172 => ((version_Add.f k bt164.1 bt164.2.1 bt164.2.2.1 bt164.2.2.2.1 bt172.1 bt172.2.1 bt172.2.2.1 bt172.2.2.2.1 bt172.2.2.2.2).bind fun bt177 => ((millhandlaw16_table.f (⟨#[98]⟩ : ByteArray) (⟨#[99]⟩ : ByteArray) (⟨#[102]⟩ : ByteArray)).bind fun bt184 => ((version_Add.f k bt177.1 bt177.2.1 bt177.2.2.1 bt177.2.2.2.1 bt184.1 bt184.2.1 bt184.2.2.1 bt184.2.2.2.1 bt184.2.2.2.2).bind fun bt189 => (if bt164.2.2.2.2 = 0 then (if bt177.2.2.2.2 = 0 then (if bt189.2.2.2.2 = 0 then (if (bt189.1.length : Int) = 4 then (if 0 < (bt189.1.length : Int) then (some (bt189.1, bt189.2.1, bt189.2.2.1, bt189.2.2.2.1, (((rd_L3 bt189.1 0).length : Int) == 2))) else (none)) else (some (bt189.1, bt189.2.1, bt189.2.2.1, bt189.2.2.2.1, false))) else (some (bt189.1, bt189.2.1, bt189.2.2.1, bt189.2.2.2.1, false))) else (some (bt189.1, bt189.2.1, bt189.2.2.1, bt189.2.2.2.1, false))) else (some (bt189.1, bt189.2.1, bt189.2.2.1, bt189.2.2.2.1, false)))))))
theorem millhandlaw16_two.mono : ∀ k, LeO (millhandlaw16_two.f k ) (millhandlaw16_two.f (k + 1) ) := by
 intro  k
 unfold millhandlaw16_two.f
 repeat' first
   | (with_reducible exact version_Add.mono _ _ _ _ _ _ _ _ _ _)
   | (with_reducible exact LeO.refl _)
   | (with_reducible exact LeO.none _)
   | (with_reducible refine LeO.ite ?_ ?_)
   | (with_reducible refine LeO.bind ?_ (fun _ => ?_))
   | exact version_Add.mono _ _ _ _ _ _ _ _ _ _
   | exact LeO.none _
   | refine LeO.ite ?_ ?_
   | refine LeO.bind ?_ (fun _ => ?_)
def millhandlaw16_two.T2 : Bool × List (List Nat × List Nat) := (true, [([], []), ([], []), ([0, 1, 1], [0, 1]), ([2], [2]), ([3], [3]), ([3], [3]), ([4, 2, 0, 1, 2, 3, 4], [4]), ([5, 6, 0, 1, 2, 3, 4, 5, 6], [5])])
def millhandlaw16_two.B2 : List Nat := [0, 0, 3, 7, 15, 15, 31, 127]
theorem millhandlaw16_two.tab2 : rtab .any (opsOf Try.f31 2) = millhandlaw16_two.T2 := by kernel_rfl
theorem millhandlaw16_two.bits2 : waitsOk millhandlaw16_two.T2.2 millhandlaw16_two.B2 = true := by kernel_rfl
def millhandlaw16_two.T3 : Bool × List (List Nat × List Nat) := (true, [([], []), ([], []), ([0, 1, 1], [0, 1]), ([2], [2]), ([3], [3]), ([3], [3]), ([4, 2, 0, 1, 2, 3, 4], [4]), ([5, 6, 0, 1, 2, 3, 4, 5, 6], [5])])
def millhandlaw16_two.B3 : List Nat := [0, 0, 3, 7, 15, 15, 31, 127]
theorem millhandlaw16_two.tab3 : rtab .any (opsOf Try.f31 3) = millhandlaw16_two.T3 := by kernel_rfl
theorem millhandlaw16_two.bits3 : waitsOk millhandlaw16_two.T3.2 millhandlaw16_two.B3 = true := by kernel_rfl
def millhandlaw16_two.T4 : Bool × List (List Nat × List Nat) := (true, [([], []), ([], []), ([1], [1]), ([2], [2]), ([3], [3]), ([4, 3], [3, 4]), ([3, 5], [3, 5]), ([6, 3], [6]), ([7], [7]), ([8, 7], [7, 8]), ([7, 9], [7, 9]), ([10, 7], [10]), ([11], [11]), ([12, 11], [11, 12]), ([13, 11], [11, 13]), ([14, 11], [11, 14]), ([11, 15], [11, 15]), ([16, 11], [16]), ([17], [17]), ([18, 17], [17, 18]), ([19, 17], [17, 19]), ([20, 17], [17, 20]), ([21, 17], [17, 21]), ([22, 17], [17, 22]), ([17, 23], [17, 23]), ([0, 17, 0], [0]), ([24, 25, 0, 1, 2, 3, 4, 5, 6, 7, 8, 9, 10, 11, 12, 13, 14, 15, 16, 17, 18, 19, 20, 21, 22, 23, 24, 25], [24])])
def millhandlaw16_two.B4 : List Nat := [0, 0, 2, 6, 14, 30, 62, 126, 254, 510, 1022, 2046, 4094, 8190, 16382, 32766, 65534, 131070, 262142, 524286, 1048574, 2097150, 4194302, 8388606, 16777214, 262143, 67108863]
theorem millhandlaw16_two.tab4 : rtab .any (opsOf Try.f31 4) = millhandlaw16_two.T4 := by kernel_rfl
theorem millhandlaw16_two.bits4 : waitsOk millhandlaw16_two.T4.2 millhandlaw16_two.B4 = true := by kernel_rfl
set_option maxHeartbeats 8000000 in
set_option maxRecDepth 100000 in
theorem millhandlaw16_two.calls (k : Nat)  (r1 : List (List (S32))) (r2 : Int) (r3 : Int) (r4 : ByteArray) (r5 : Bool) (w : World) (h : millhandlaw16_two.f k  = some (r1, r2, r3, r4, r5)) :
  Calls Try.prog 31 #[] w fun e w' => ∃ v0_ : Value, e = .returned (.tuple #[.agg #[v0_, .int .i64 r2, .int .i64 r3, .string r4], .bool r5]) ∧ Kd.V (Kd.slice 32 k32) 27 w' w.heap.size (fun k_ => (w.heap.size ≤ k_)) v0_ r1 ∧ Below w.heap.size w w' := by
 have hu24 := Try.underlying24
 have HB := Aside0.mk (Below.refl w.heap.size w)
 have H : ((version_New.f (⟨#[108, 111, 103]⟩ : ByteArray)).bind fun bt164 => ((millhandlaw16_table.f (⟨#[97]⟩ : ByteArray) (⟨#[98]⟩ : ByteArray) (⟨#[100]⟩ : ByteArray)).bind fun bt172 => ((version_Add.f k bt164.1 bt164.2.1 bt164.2.2.1 bt164.2.2.2.1 bt172.1 bt172.2.1 bt172.2.2.1 bt172.2.2.2.1 bt172.2.2.2.2).bind fun bt177 => ((millhandlaw16_table.f (⟨#[98]⟩ : ByteArray) (⟨#[99]⟩ : ByteArray) (⟨#[102]⟩ : ByteArray)).bind fun bt184 => ((version_Add.f k bt177.1 bt177.2.1 bt177.2.2.1 bt177.2.2.2.1 bt184.1 bt184.2.1 bt184.2.2.1 bt184.2.2.2.1 bt184.2.2.2.2).bind fun bt189 => (if bt164.2.2.2.2 = 0 then (if bt177.2.2.2.2 = 0 then (if bt189.2.2.2.2 = 0 then (if (bt189.1.length : Int) = 4 then (if 0 < (bt189.1.length : Int) then (some (bt189.1, bt189.2.1, bt189.2.2.1, bt189.2.2.2.1, (((rd_L3 bt189.1 0).length : Int) == 2))) else (none)) else (some (bt189.1, bt189.2.1, bt189.2.2.1, bt189.2.2.2.1, false))) else (some (bt189.1, bt189.2.1, bt189.2.2.1, bt189.2.2.2.1, false))) else (some (bt189.1, bt189.2.1, bt189.2.2.1, bt189.2.2.2.1, false))) else (some (bt189.1, bt189.2.1, bt189.2.2.1, bt189.2.2.2.1, false)))))))) = some (r1, r2, r3, r4, r5) := h
 clear h
 replace H := Option.bind_eq_some_iff.mp H
 obtain ⟨⟨t164, t167, t168, t169, t170⟩, A10, H⟩ := H
 replace H : ((millhandlaw16_table.f (⟨#[97]⟩ : ByteArray) (⟨#[98]⟩ : ByteArray) (⟨#[100]⟩ : ByteArray)).bind fun bt172 => ((version_Add.f k t164 t167 t168 t169 bt172.1 bt172.2.1 bt172.2.2.1 bt172.2.2.2.1 bt172.2.2.2.2).bind fun bt177 => ((millhandlaw16_table.f (⟨#[98]⟩ : ByteArray) (⟨#[99]⟩ : ByteArray) (⟨#[102]⟩ : ByteArray)).bind fun bt184 => ((version_Add.f k bt177.1 bt177.2.1 bt177.2.2.1 bt177.2.2.2.1 bt184.1 bt184.2.1 bt184.2.2.1 bt184.2.2.2.1 bt184.2.2.2.2).bind fun bt189 => (if t170 = 0 then (if bt177.2.2.2.2 = 0 then (if bt189.2.2.2.2 = 0 then (if (bt189.1.length : Int) = 4 then (if 0 < (bt189.1.length : Int) then (some (bt189.1, bt189.2.1, bt189.2.2.1, bt189.2.2.2.1, (((rd_L3 bt189.1 0).length : Int) == 2))) else (none)) else (some (bt189.1, bt189.2.1, bt189.2.2.1, bt189.2.2.2.1, false))) else (some (bt189.1, bt189.2.1, bt189.2.2.1, bt189.2.2.2.1, false))) else (some (bt189.1, bt189.2.1, bt189.2.2.1, bt189.2.2.2.1, false))) else (some (bt189.1, bt189.2.1, bt189.2.2.1, bt189.2.2.2.1, false))))))) = some (r1, r2, r3, r4, r5) := H
 have A1 := Aside0.mk A10
 clear A10
 replace H := Option.bind_eq_some_iff.mp H
 obtain ⟨⟨t172, t173, t174, t175, t176⟩, A20, H⟩ := H
 replace H : ((version_Add.f k t164 t167 t168 t169 t172 t173 t174 t175 t176).bind fun bt177 => ((millhandlaw16_table.f (⟨#[98]⟩ : ByteArray) (⟨#[99]⟩ : ByteArray) (⟨#[102]⟩ : ByteArray)).bind fun bt184 => ((version_Add.f k bt177.1 bt177.2.1 bt177.2.2.1 bt177.2.2.2.1 bt184.1 bt184.2.1 bt184.2.2.1 bt184.2.2.2.1 bt184.2.2.2.2).bind fun bt189 => (if t170 = 0 then (if bt177.2.2.2.2 = 0 then (if bt189.2.2.2.2 = 0 then (if (bt189.1.length : Int) = 4 then (if 0 < (bt189.1.length : Int) then (some (bt189.1, bt189.2.1, bt189.2.2.1, bt189.2.2.2.1, (((rd_L3 bt189.1 0).length : Int) == 2))) else (none)) else (some (bt189.1, bt189.2.1, bt189.2.2.1, bt189.2.2.2.1, false))) else (some (bt189.1, bt189.2.1, bt189.2.2.1, bt189.2.2.2.1, false))) else (some (bt189.1, bt189.2.1, bt189.2.2.1, bt189.2.2.2.1, false))) else (some (bt189.1, bt189.2.1, bt189.2.2.1, bt189.2.2.2.1, false)))))) = some (r1, r2, r3, r4, r5) := H
 have A2 := Aside0.mk A20
 clear A20
 replace H := Option.bind_eq_some_iff.mp H
 obtain ⟨⟨t177, t180, t181, t182, t183⟩, A30, H⟩ := H
 replace H : ((millhandlaw16_table.f (⟨#[98]⟩ : ByteArray) (⟨#[99]⟩ : ByteArray) (⟨#[102]⟩ : ByteArray)).bind fun bt184 => ((version_Add.f k t177 t180 t181 t182 bt184.1 bt184.2.1 bt184.2.2.1 bt184.2.2.2.1 bt184.2.2.2.2).bind fun bt189 => (if t170 = 0 then (if t183 = 0 then (if bt189.2.2.2.2 = 0 then (if (bt189.1.length : Int) = 4 then (if 0 < (bt189.1.length : Int) then (some (bt189.1, bt189.2.1, bt189.2.2.1, bt189.2.2.2.1, (((rd_L3 bt189.1 0).length : Int) == 2))) else (none)) else (some (bt189.1, bt189.2.1, bt189.2.2.1, bt189.2.2.2.1, false))) else (some (bt189.1, bt189.2.1, bt189.2.2.1, bt189.2.2.2.1, false))) else (some (bt189.1, bt189.2.1, bt189.2.2.1, bt189.2.2.2.1, false))) else (some (bt189.1, bt189.2.1, bt189.2.2.1, bt189.2.2.2.1, false))))) = some (r1, r2, r3, r4, r5) := H
 have A3 := Aside0.mk A30
 clear A30
 replace H := Option.bind_eq_some_iff.mp H
 obtain ⟨⟨t184, t185, t186, t187, t188⟩, A40, H⟩ := H
 replace H : ((version_Add.f k t177 t180 t181 t182 t184 t185 t186 t187 t188).bind fun bt189 => (if t170 = 0 then (if t183 = 0 then (if bt189.2.2.2.2 = 0 then (if (bt189.1.length : Int) = 4 then (if 0 < (bt189.1.length : Int) then (some (bt189.1, bt189.2.1, bt189.2.2.1, bt189.2.2.2.1, (((rd_L3 bt189.1 0).length : Int) == 2))) else (none)) else (some (bt189.1, bt189.2.1, bt189.2.2.1, bt189.2.2.2.1, false))) else (some (bt189.1, bt189.2.1, bt189.2.2.1, bt189.2.2.2.1, false))) else (some (bt189.1, bt189.2.1, bt189.2.2.1, bt189.2.2.2.1, false))) else (some (bt189.1, bt189.2.1, bt189.2.2.1, bt189.2.2.2.1, false)))) = some (r1, r2, r3, r4, r5) := H
 have A4 := Aside0.mk A40
 clear A40
 replace H := Option.bind_eq_some_iff.mp H
 obtain ⟨⟨t189, t192, t193, t194, t195⟩, A50, H⟩ := H
 replace H : (if t170 = 0 then (if t183 = 0 then (if t195 = 0 then (if (t189.length : Int) = 4 then (if 0 < (t189.length : Int) then (some (t189, t192, t193, t194, (((rd_L3 t189 0).length : Int) == 2))) else (none)) else (some (t189, t192, t193, t194, false))) else (some (t189, t192, t193, t194, false))) else (some (t189, t192, t193, t194, false))) else (some (t189, t192, t193, t194, false))) = some (r1, r2, r3, r4, r5) := H
 have A5 := Aside0.mk A50
 clear A50
 by_cases c6 : t170 = 0
 ·
  rw [if_pos c6] at H
  have c6b0 : (t170 == 0) = true := beq_iff_eq.mpr c6
  have c6b1 : (t170 != 0) = false := bne_eq_false_iff_eq.mpr c6
  clear c6
  by_cases c7 : t183 = 0
  ·
   rw [if_pos c7] at H
   have c7b0 : (t183 == 0) = true := beq_iff_eq.mpr c7
   have c7b1 : (t183 != 0) = false := bne_eq_false_iff_eq.mpr c7
   clear c7
   by_cases c8 : t195 = 0
   ·
    rw [if_pos c8] at H
    have c8b0 : (t195 == 0) = true := beq_iff_eq.mpr c8
    have c8b1 : (t195 != 0) = false := bne_eq_false_iff_eq.mpr c8
    clear c8
    by_cases c9 : (t189.length : Int) = 4
    ·
     rw [if_pos c9] at H
     have c9b0 : ((t189.length : Int) == 4) = true := beq_iff_eq.mpr c9
     have c9b1 : ((t189.length : Int) != 4) = false := bne_eq_false_iff_eq.mpr c9
     clear c9
     by_cases c10 : 0 < (t189.length : Int)
     ·
      rw [if_pos c10] at H
      have c10b0 : decide (0 < (t189.length : Int)) = true := decide_eq_true c10
      have c10b1 : decide (0 < t189.length) = true := decide_eq_true (by omega)
      clear c10
      simp only [Option.some.injEq, Prod.mk.injEq] at H
      obtain ⟨rfl, rfl, rfl, rfl, rfl⟩ := H
      go_enter Try.func31, Try.ntmps31
      try go_wp2_with (first | ((with_reducible refine gate_dst (N := 0) rfl ?_); (try (refine gate_guard (by rfl) ?_; dsimp only)); refine box_event ?hg (N := 0) ?hd (cs := #[.slice none 0 0, .int .i64 0, .int .i64 0, .string (⟨#[]⟩ : ByteArray)]) (t := 24) ?hr ?_; (case hd => rfl); (case hg => rfl); (case hr => first | (go_simp; done) | (go_simp; rfl)); intro gb163 hg w11 hbox hb; have n0_ := Aside0.mk (below_step hq_ hb); have n1_ := Aside0.mk (hbox); have n2_ := Aside0.mk ((by rw [hg]; exact (below_size hq_) : w.heap.size ≤ gb163)); have n3_ := Aside0.mk ((by rw [hg]; exact (below_size hq_) : w.heap.size ≤ gb163)); clear HB; have HB := n0_; have BK163 := n1_; have GW163 := n2_; have GE163 := n3_; clear n0_ n1_ n2_ n3_; clear hb hbox hg) | ((with_reducible refine gate_callee (f := 19) rfl ?_); refine goesL_ (some 7) rfl rfl Try.func19 (by kernel_rfl) rfl #[.string (⟨#[108, 111, 103]⟩ : ByteArray)] rfl (by (try simp only [List.map_toArray, List.map_cons, List.map_nil]); first | done | rfl | (simp only [List.length_drop, List.length_take]; rfl)) ?_; (with_reducible refine (version_New.calls (⟨#[108, 111, 103]⟩ : ByteArray) t164 t167 t168 t169 t170 _ A1.out).mono ?_); rintro e w12 ⟨v165, rfl, ho0, hb⟩; refine ⟨_, rfl, ?_⟩; have n0_ := Aside0.mk (Kd.S_lower (Kd.S_newM (M := fun k_ => (w.heap.size ≤ k_)) ho0 (below_size hq_) (fun k_ h_ => h_)) (below_size hq_)); have n1_ := Aside0.mk (blk_below (g := gb163) (o := .cells #[.slice none 0 0, .int .i64 0, .int .i64 0, .string (⟨#[]⟩ : ByteArray)] 24 (0, 0)) bq_ hb); have n2_ := Aside0.mk (below_step hq_ hb); clear BK163; clear HB; have HO166 := n0_; have BK163 := n1_; have HB := n2_; clear n0_ n1_ n2_; (try clear hb); (try clear hb2); (try clear hk); (try clear hi); (try clear ho0)) | ((with_reducible refine gate_dst (N := 2) rfl ?_); (try (refine gate_guard (by rfl) ?_; dsimp only)); refine box_event ?hg (N := 2) ?hd (cs := #[.slice none 0 0, .int .i64 0, .int .i64 0, .string (⟨#[]⟩ : ByteArray)]) (t := 24) ?hr ?_; (case hd => rfl); (case hg => rfl); (case hr => first | (go_simp; done) | (go_simp; rfl)); intro gb171 hg w13 hbox hb; have n0_ := Aside0.mk (Kd.S_below rS_ hb); have n1_ := Aside0.mk (blk_below (g := gb163) (o := .cells #[.slice none 0 0, .int .i64 0, .int .i64 0, .string (⟨#[]⟩ : ByteArray)] 24 (0, 0)) bq_ hb); have n2_ := Aside0.mk (below_step hq_ hb); have n3_ := Aside0.mk (hbox); have n4_ := Aside0.mk ((by rw [hg]; exact (below_size hq_) : w.heap.size ≤ gb171)); have n5_ := Aside0.mk ((by rw [hg]; exact (below_size hq_) : w.heap.size ≤ gb171)); have n6_ := Aside0.mk ((by rw [hg]; exact Nat.ne_of_lt (blk_lt (g := gb163) (o := .cells #[.slice none 0 0, .int .i64 0, .int .i64 0, .string (⟨#[]⟩ : ByteArray)] 24 (0, 0)) bq_) : gb163 ≠ gb171)); have n7_ := Aside0.mk ((by rw [hg]; exact Nat.ne_of_gt (blk_lt (g := gb163) (o := .cells #[.slice none 0 0, .int .i64 0, .int .i64 0, .string (⟨#[]⟩ : ByteArray)] 24 (0, 0)) bq_) : gb171 ≠ gb163)); clear HO166; clear BK163; clear HB; have HO166 := n0_; have BK163 := n1_; have HB := n2_; have BK171 := n3_; have GW171 := n4_; have GE171 := n5_; have NB163_171 := n6_; have NB171_163 := n7_; clear n0_ n1_ n2_ n3_ n4_ n5_ n6_ n7_; clear hb hbox hg; obtain ⟨Ao14, co14, eo14⟩ := Kd.S_slice HO166.out; subst eo14; have hnb15 := NB171_163.out; have hnc15 := NB163_171.out; have hcz16_0 : w13.cell? ⟨gb171, 0, none⟩ = some (.slice none 0 0) := (blk_cell BK171.out 0).trans rfl; have hcz16_1 : w13.cell? ⟨gb171, 1, none⟩ = some (.int .i64 0) := (blk_cell BK171.out 1).trans rfl; have hcz16_2 : w13.cell? ⟨gb171, 2, none⟩ = some (.int .i64 0) := (blk_cell BK171.out 2).trans rfl; have hcz16_3 : w13.cell? ⟨gb171, 3, none⟩ = some (.string (⟨#[]⟩ : ByteArray)) := (blk_cell BK171.out 3).trans rfl; have hfz16_0 := blk_frozen BK171.out 0; have hfz16_1 := blk_frozen BK171.out 1; have hfz16_2 := blk_frozen BK171.out 2; have hfz16_3 := blk_frozen BK171.out 3))
      have n0_ : Aside0 (Kd.S (Kd.slice 32 k32) 27 ((((w13.setCell ⟨gb171, 0, none⟩ (.slice Ao14 t164.length co14)).setCell ⟨gb171, 1, none⟩ (.int .i64 t167)).setCell ⟨gb171, 2, none⟩ (.int .i64 t168)).setCell ⟨gb171, 3, none⟩ (.string t169)) w.heap.size (fun k_ => (w.heap.size ≤ k_)) (.slice Ao14 t164.length co14) t164) := ⟨by (with_reducible repeat (first | apply Kd.S_alloc | apply Kd.S_drewN | apply Kd.S_drew)); exact Kd.S_mono (Kd.S_far (p := ⟨gb171, 3, none⟩) (Kd.S_far (p := ⟨gb171, 2, none⟩) (Kd.S_far (p := ⟨gb171, 1, none⟩) (Kd.S_far (p := ⟨gb171, 0, none⟩) (Kd.S_types HO166.out BK171.out (by decide)) (fun _ hk => hk.2) (.slice Ao14 t164.length co14)) (fun _ hk => hk.2) (.int .i64 t167)) (fun _ hk => hk.2) (.int .i64 t168)) (fun _ hk => hk.2) (.string t169)) (fun _ hk => hk.1.1)⟩
      have n1_ : Aside0 (((((w13.setCell ⟨gb171, 0, none⟩ (.slice Ao14 t164.length co14)).setCell ⟨gb171, 1, none⟩ (.int .i64 t167)).setCell ⟨gb171, 2, none⟩ (.int .i64 t168)).setCell ⟨gb171, 3, none⟩ (.string t169)).heap[gb163]? = some (.cells #[.slice none 0 0, .int .i64 0, .int .i64 0, .string (⟨#[]⟩ : ByteArray)] 24 (0, 0))) := ⟨bf_⟩
      have n2_ : Aside0 (((((w13.setCell ⟨gb171, 0, none⟩ (.slice Ao14 t164.length co14)).setCell ⟨gb171, 1, none⟩ (.int .i64 t167)).setCell ⟨gb171, 2, none⟩ (.int .i64 t168)).setCell ⟨gb171, 3, none⟩ (.string t169)).heap[gb171]? = some (.cells #[.slice Ao14 t164.length co14, .int .i64 t167, .int .i64 t168, .string t169] 24 (0, 0))) := ⟨by (with_reducible repeat (first | refine blk_drewN ?_ _ | refine blk_drew ?_ | refine blk_alloc ?_ _)); refine blk_put (cs := #[.slice Ao14 t164.length co14, .int .i64 t167, .int .i64 t168, .string (⟨#[]⟩ : ByteArray)]) ?_ 3 _ rfl; (with_reducible repeat (first | refine blk_drewN ?_ _ | refine blk_drew ?_ | refine blk_alloc ?_ _)); refine blk_put (cs := #[.slice Ao14 t164.length co14, .int .i64 t167, .int .i64 0, .string (⟨#[]⟩ : ByteArray)]) ?_ 2 _ rfl; (with_reducible repeat (first | refine blk_drewN ?_ _ | refine blk_drew ?_ | refine blk_alloc ?_ _)); refine blk_put (cs := #[.slice Ao14 t164.length co14, .int .i64 0, .int .i64 0, .string (⟨#[]⟩ : ByteArray)]) ?_ 1 _ rfl; (with_reducible repeat (first | refine blk_drewN ?_ _ | refine blk_drew ?_ | refine blk_alloc ?_ _)); refine blk_put (cs := #[.slice none 0 0, .int .i64 0, .int .i64 0, .string (⟨#[]⟩ : ByteArray)]) ?_ 0 _ rfl; (with_reducible repeat (first | refine blk_drewN ?_ _ | refine blk_drew ?_ | refine blk_alloc ?_ _)); exact BK171.out⟩
      have n3_ : Aside0 (Below w.heap.size w ((((w13.setCell ⟨gb171, 0, none⟩ (.slice Ao14 t164.length co14)).setCell ⟨gb171, 1, none⟩ (.int .i64 t167)).setCell ⟨gb171, 2, none⟩ (.int .i64 t168)).setCell ⟨gb171, 3, none⟩ (.string t169))) := ⟨hq_⟩
      (try clear HO166)
      (try clear BK163)
      (try clear BK171)
      (try clear HB)
      generalize ((((w13.setCell ⟨gb171, 0, none⟩ (.slice Ao14 t164.length co14)).setCell ⟨gb171, 1, none⟩ (.int .i64 t167)).setCell ⟨gb171, 2, none⟩ (.int .i64 t168)).setCell ⟨gb171, 3, none⟩ (.string t169)) = w17 at n0_ n1_ n2_ n3_ ⊢
      have HO166 := n0_
      have BK163 := n1_
      have BK171 := n2_
      have HB := n3_
      clear n0_ n1_ n2_ n3_
      obtain ⟨HO166, BK163, BK171, HB⟩ := And.intro (Aside0.mk (Kd.S_drew HO166.out)) (And.intro (Aside0.mk (blk_drew BK163.out)) (And.intro (Aside0.mk (blk_drew BK171.out)) (Aside0.mk (below_drew1 HB.out))))
      refine start_ (n := 8) (S := fun w' => w'.cell? ⟨gb171, 0, none⟩ = some (.slice Ao14 t164.length co14) ∧ w'.cell? ⟨gb171, 1, none⟩ = some (.int .i64 t167) ∧ w'.cell? ⟨gb171, 2, none⟩ = some (.int .i64 t168) ∧ w'.cell? ⟨gb171, 3, none⟩ = some (.string t169)) (ds := [6]) (b_ 8 0) (by kernel_rfl) rfl rfl ⟨(blk_cell BK171.out 0).trans rfl, (blk_cell BK171.out 1).trans rfl, (blk_cell BK171.out 2).trans rfl, (blk_cell BK171.out 3).trans rfl⟩ (fun hHeld => ?_); refine with_tabW millhandlaw16_two.tab2 millhandlaw16_two.bits2 (fun HT_ HW_ => ?_)
      generalize w17.drew = w18 at HO166 BK163 BK171 HB hHeld ⊢
      refine tA_ 0 11 ?_ (b_ 8 1) (take_ofW HT_.out HW_.out (by kernel_rfl)) rfl rfl (fun _ _ _ h => h) (by rfl) ?_ hHeld ?_ ?_ ?_; rotate_left
      · rintro w' ⟨s0, s1, s2, s3⟩; go_simp; with_reducible rfl
      rotate_left
      · simp only [Act.put, sa_, s0_, s1_, i64_w, i32_w]; rfl
      refine one_ (i := 1) (N := some 12) (b_ 8 3) rfl rfl (one_of HT_.out (by kernel_rfl)) (by decide) (fun K hK => ?_)
      refine goes_ Try.func32 (by kernel_rfl) rfl #[.string (⟨#[97]⟩ : ByteArray), .string (⟨#[98]⟩ : ByteArray), .string (⟨#[100]⟩ : ByteArray)] (by rfl) rfl rfl (by (try simp only [List.map_toArray, List.map_cons, List.map_nil]); first | done | rfl | (simp only [List.length_drop, List.length_take]; rfl)) ?_
      with_reducible refine (millhandlaw16_table.calls (⟨#[97]⟩ : ByteArray) (⟨#[98]⟩ : ByteArray) (⟨#[100]⟩ : ByteArray) t172 t173 t174 t175 t176 _ A2.out).mono ?_
      rintro e w19 ⟨rfl, hb⟩
      refine ⟨_, rfl, ?_⟩
      obtain ⟨HO166, BK163, BK171, HB⟩ := And.intro (Aside0.mk (Kd.S_below rS_ hb)) (And.intro (Aside0.mk (blk_below (g := gb163) (o := .cells #[.slice none 0 0, .int .i64 0, .int .i64 0, .string (⟨#[]⟩ : ByteArray)] 24 (0, 0)) bq_ hb)) (And.intro (Aside0.mk (blk_below (g := gb171) (o := .cells #[.slice Ao14 t164.length co14, .int .i64 t167, .int .i64 t168, .string t169] 24 (0, 0)) bq_ hb)) (Aside0.mk (below_step hq_ hb))))
      (try clear hb)
      (try clear hb2)
      (try clear hk)
      (try clear hi)
      refine hK.out _ _ ⟨(blk_cell BK171.out 0).trans rfl, (blk_cell BK171.out 1).trans rfl, (blk_cell BK171.out 2).trans rfl, (blk_cell BK171.out 3).trans rfl⟩ (fun hHeld => ?_)
      clear hK K
      refine norm_ (a' := ?_) ?_ ?_
      rotate_left
      ·
       show Act.put _ (some 12) _ = _
       simp only [Act.put, sa_, s0_, s1_, i64_w, i32_w]
       rfl
      refine one_ (i := 2) (N := some 13) (b_ 8 7) rfl rfl (one_of HT_.out (by kernel_rfl)) (by decide) (fun K hK => ?_)
      refine goes_ Try.func15 (by kernel_rfl) rfl #[.agg #[.slice Ao14 t164.length co14, .int .i64 t167, .int .i64 t168, .string t169], .agg #[.string t172, .int .i64 t173, .int .i64 t174, .string t175, .string t176]] (by rfl) rfl rfl (by (try simp only [List.map_toArray, List.map_cons, List.map_nil]); first | done | rfl | (simp only [List.length_drop, List.length_take]; rfl)) ?_
      with_reducible refine (version_Add.calls k _ _ t164 t167 t168 t169 t172 t173 t174 t175 t176 t177 t180 t181 t182 t183 _ ?side1 ?side2 A3.out).mono ?_
      (case side1 => repeat (first | exact (Kd.S_reads' HO166.out).2.2 | (with_reducible refine Kd.C_alloc ?_ _) | (with_reducible refine Kd.C_drewN ?_ _) | (with_reducible refine Kd.C_drew ?_)))
      (case side2 => exact (Kd.S_reads' HO166.out).2.1)
      rintro e w20 ⟨v178, rfl, ho0, hb⟩
      refine ⟨_, rfl, ?_⟩
      obtain ⟨HO166, HO179, BK163, BK171, HB⟩ := And.intro (Aside0.mk (Kd.S_below rS_ hb)) (And.intro (Aside0.mk (Kd.V_lower (Kd.V_mono (ok' := fun k_ => (w.heap.size ≤ k_) ∧ some k_ ≠ (.slice Ao14 t164.length co14 : Value).ownBlock ∧ k_ ≠ gb163 ∧ k_ ≠ gb171) ho0 (fun k_ hk_ => ⟨(Nat.le_trans (below_size hq_) hk_), (Kd.fresh' (Kd.S_lt rS_) k_ hk_), (Kd.freshB (g := gb163) (o := .cells #[.slice none 0 0, .int .i64 0, .int .i64 0, .string (⟨#[]⟩ : ByteArray)] 24 (0, 0)) bq_ k_ hk_), (Kd.freshB (g := gb171) (o := .cells #[.slice Ao14 t164.length co14, .int .i64 t167, .int .i64 t168, .string t169] 24 (0, 0)) bq_ k_ hk_)⟩)) (below_size hq_))) (And.intro (Aside0.mk (blk_below (g := gb163) (o := .cells #[.slice none 0 0, .int .i64 0, .int .i64 0, .string (⟨#[]⟩ : ByteArray)] 24 (0, 0)) bq_ hb)) (And.intro (Aside0.mk (blk_below (g := gb171) (o := .cells #[.slice Ao14 t164.length co14, .int .i64 t167, .int .i64 t168, .string t169] 24 (0, 0)) bq_ hb)) (Aside0.mk (below_step hq_ hb)))))
      (try clear hb)
      (try clear hb2)
      (try clear hk)
      (try clear hi)
      (try clear ho0)
      obtain ⟨Ao21, co21, eo21⟩ := Kd.V_slice HO179.out
      (first | subst eo21 | (injection eo21 with f1_ f2_ f3_; have f4_ := f1_.symm; have f5_ := f3_.symm; clear f1_ f2_ f3_; subst f4_; subst f5_))
      refine hK.out _ _ ⟨(blk_cell BK171.out 0).trans rfl, (blk_cell BK171.out 1).trans rfl, (blk_cell BK171.out 2).trans rfl, (blk_cell BK171.out 3).trans rfl⟩ (fun hHeld => ?_)
      clear hK K
      refine norm_ (a' := ?_) ?_ ?_
      rotate_left
      ·
       show Act.put _ (some 13) _ = _
       simp only [Act.put, sa_, s0_, s1_, i64_w, i32_w]
       rfl
      refine pA_ 3 10 ?_ (b_ 8 15) (any_of HT_.out (by kernel_rfl)) rfl rfl (fun _ _ _ h => h) (by rfl) ?_ ?_ ?_ ?_; rotate_left
      · intro w'; go_simp; with_reducible rfl
      rotate_left
      · simp only [Act.put, sa_, s0_, s1_, i64_w, i32_w]; rfl
      refine pA_ 4 14 ?_ (b_ 8 31) (any_of HT_.out (by kernel_rfl)) rfl rfl (fun _ _ _ h => h) (by rfl) ?_ ?_ ?_ ?_; rotate_left
      · intro w'; go_simp; with_reducible rfl
      rotate_left
      · simp only [Act.put, sa_, s0_, s1_, i64_w, i32_w]; rfl
      refine pA_ 5 15 ?_ (b_ 8 63) (any_of HT_.out (by kernel_rfl)) rfl rfl (fun _ _ _ h => h) (by rfl) ?_ ?_ ?_ ?_; rotate_left
      · intro w'; go_simp; with_reducible rfl
      rotate_left
      · simp only [Act.put, sa_, s0_, s1_, i64_w, i32_w]; rfl
      refine last_ (i := 6) (N := none) (b_ 8 127) rfl rfl (one_of HT_.out (by kernel_rfl)) (by decide) (fun K hK => ?_)
      have hs22 : w20.cell? ⟨gb171, 0, none⟩ = some (.slice Ao14 t164.length co14) := (blk_cell BK171.out 0).trans rfl
      have hfs22 := blk_frozen BK171.out 0
      have hns22_0 := NB163_171.out
      have hms22_0 := NB171_163.out
      have hs23 : w20.cell? ⟨gb171, 1, none⟩ = some (.int .i64 t167) := (blk_cell BK171.out 1).trans rfl
      have hfs23 := blk_frozen BK171.out 1
      have hns23_0 := NB163_171.out
      have hms23_0 := NB171_163.out
      have hs24 : w20.cell? ⟨gb171, 2, none⟩ = some (.int .i64 t168) := (blk_cell BK171.out 2).trans rfl
      have hfs24 := blk_frozen BK171.out 2
      have hns24_0 := NB163_171.out
      have hms24_0 := NB171_163.out
      have hs25 : w20.cell? ⟨gb171, 3, none⟩ = some (.string t169) := (blk_cell BK171.out 3).trans rfl
      have hfs25 := blk_frozen BK171.out 3
      have hns25_0 := NB163_171.out
      have hms25_0 := NB171_163.out
      refine skip_ (w1 := ?_) (by rfl) rfl ?_ ?_; rotate_left
      · go_simp; rfl
      refine hK.out _ _ ?_
      clear hK K
      refine pA_ 7 4 ?_ (b_ 8 255) (any_of HT_.out (by kernel_rfl)) rfl rfl (fun _ _ _ h => h) (by rfl) ?_ ?_ ?_ ?_; rotate_left
      · intro w'; go_simp; with_reducible rfl
      rotate_left
      · simp only [Act.put, sa_, s0_, s1_, i64_w, i32_w]; rfl
      refine done_ (done_of HT_.out (by kernel_rfl)) ?_
      try go_wp2
      have n0_ : Aside0 (Kd.S (Kd.slice 32 k32) 27 ((((w20.setCell ⟨gb171, 0, none⟩ (.slice Ao21 t177.length co21)).setCell ⟨gb171, 1, none⟩ (.int .i64 t180)).setCell ⟨gb171, 2, none⟩ (.int .i64 t181)).setCell ⟨gb171, 3, none⟩ (.string t182)) w.heap.size (fun k_ => (w.heap.size ≤ k_)) (.slice Ao14 t164.length co14) t164) := ⟨by (with_reducible repeat (first | apply Kd.S_alloc | apply Kd.S_drewN | apply Kd.S_drew)); exact Kd.S_mono (Kd.S_far (p := ⟨gb171, 3, none⟩) (Kd.S_far (p := ⟨gb171, 2, none⟩) (Kd.S_far (p := ⟨gb171, 1, none⟩) (Kd.S_far (p := ⟨gb171, 0, none⟩) (Kd.S_types HO166.out BK171.out (by decide)) (fun _ hk => hk.2) (.slice Ao21 t177.length co21)) (fun _ hk => hk.2) (.int .i64 t180)) (fun _ hk => hk.2) (.int .i64 t181)) (fun _ hk => hk.2) (.string t182)) (fun _ hk => hk.1)⟩
      have n1_ : Aside0 (Kd.V (Kd.slice 32 k32) 27 ((((w20.setCell ⟨gb171, 0, none⟩ (.slice Ao21 t177.length co21)).setCell ⟨gb171, 1, none⟩ (.int .i64 t180)).setCell ⟨gb171, 2, none⟩ (.int .i64 t181)).setCell ⟨gb171, 3, none⟩ (.string t182)) w.heap.size (fun k_ => (w.heap.size ≤ k_) ∧ some k_ ≠ (.slice Ao14 t164.length co14 : Value).ownBlock ∧ k_ ≠ gb163 ∧ k_ ≠ gb171) (.slice Ao21 t177.length co21) t177) := ⟨by (with_reducible repeat (first | apply Kd.V_alloc | apply Kd.V_drewN | apply Kd.V_drew)); exact Kd.V_mono (Kd.V_far (p := ⟨gb171, 3, none⟩) (Kd.V_far (p := ⟨gb171, 2, none⟩) (Kd.V_far (p := ⟨gb171, 1, none⟩) (Kd.V_far (p := ⟨gb171, 0, none⟩) (Kd.V_mono HO179.out (fun k_ hk => (⟨hk, hk.2.2.2⟩ : _ ∧ k_ ≠ gb171))) (fun _ hk => hk.2) (.slice Ao21 t177.length co21)) (fun _ hk => hk.2) (.int .i64 t180)) (fun _ hk => hk.2) (.int .i64 t181)) (fun _ hk => hk.2) (.string t182)) (fun _ hk => ⟨hk.1.1, ⟨hk.1.2.1, ⟨hk.1.2.2.1, hk.1.2.2.2⟩⟩⟩)⟩
      have n2_ : Aside0 (((((w20.setCell ⟨gb171, 0, none⟩ (.slice Ao21 t177.length co21)).setCell ⟨gb171, 1, none⟩ (.int .i64 t180)).setCell ⟨gb171, 2, none⟩ (.int .i64 t181)).setCell ⟨gb171, 3, none⟩ (.string t182)).heap[gb163]? = some (.cells #[.slice none 0 0, .int .i64 0, .int .i64 0, .string (⟨#[]⟩ : ByteArray)] 24 (0, 0))) := ⟨bf_⟩
      have n3_ : Aside0 (((((w20.setCell ⟨gb171, 0, none⟩ (.slice Ao21 t177.length co21)).setCell ⟨gb171, 1, none⟩ (.int .i64 t180)).setCell ⟨gb171, 2, none⟩ (.int .i64 t181)).setCell ⟨gb171, 3, none⟩ (.string t182)).heap[gb171]? = some (.cells #[.slice Ao21 t177.length co21, .int .i64 t180, .int .i64 t181, .string t182] 24 (0, 0))) := ⟨by (with_reducible repeat (first | refine blk_drewN ?_ _ | refine blk_drew ?_ | refine blk_alloc ?_ _)); refine blk_put (cs := #[.slice Ao21 t177.length co21, .int .i64 t180, .int .i64 t181, .string t169]) ?_ 3 _ rfl; (with_reducible repeat (first | refine blk_drewN ?_ _ | refine blk_drew ?_ | refine blk_alloc ?_ _)); refine blk_put (cs := #[.slice Ao21 t177.length co21, .int .i64 t180, .int .i64 t168, .string t169]) ?_ 2 _ rfl; (with_reducible repeat (first | refine blk_drewN ?_ _ | refine blk_drew ?_ | refine blk_alloc ?_ _)); refine blk_put (cs := #[.slice Ao21 t177.length co21, .int .i64 t167, .int .i64 t168, .string t169]) ?_ 1 _ rfl; (with_reducible repeat (first | refine blk_drewN ?_ _ | refine blk_drew ?_ | refine blk_alloc ?_ _)); refine blk_put (cs := #[.slice Ao14 t164.length co14, .int .i64 t167, .int .i64 t168, .string t169]) ?_ 0 _ rfl; (with_reducible repeat (first | refine blk_drewN ?_ _ | refine blk_drew ?_ | refine blk_alloc ?_ _)); exact BK171.out⟩
      have n4_ : Aside0 (Below w.heap.size w ((((w20.setCell ⟨gb171, 0, none⟩ (.slice Ao21 t177.length co21)).setCell ⟨gb171, 1, none⟩ (.int .i64 t180)).setCell ⟨gb171, 2, none⟩ (.int .i64 t181)).setCell ⟨gb171, 3, none⟩ (.string t182))) := ⟨hq_⟩
      (try clear HO166)
      (try clear HO179)
      (try clear BK163)
      (try clear BK171)
      (try clear HB)
      generalize ((((w20.setCell ⟨gb171, 0, none⟩ (.slice Ao21 t177.length co21)).setCell ⟨gb171, 1, none⟩ (.int .i64 t180)).setCell ⟨gb171, 2, none⟩ (.int .i64 t181)).setCell ⟨gb171, 3, none⟩ (.string t182)) = w26 at n0_ n1_ n2_ n3_ n4_ ⊢
      have HO166 := n0_
      have HO179 := n1_
      have BK163 := n2_
      have BK171 := n3_
      have HB := n4_
      clear n0_ n1_ n2_ n3_ n4_
      obtain ⟨HO166, HO179, BK163, BK171, HB⟩ := And.intro (Aside0.mk (Kd.S_drew HO166.out)) (And.intro (Aside0.mk (Kd.V_drew HO179.out)) (And.intro (Aside0.mk (blk_drew BK163.out)) (And.intro (Aside0.mk (blk_drew BK171.out)) (Aside0.mk (below_drew1 HB.out)))))
      refine start_ (n := 8) (S := fun w' => w'.cell? ⟨gb171, 0, none⟩ = some (.slice Ao21 t177.length co21) ∧ w'.cell? ⟨gb171, 1, none⟩ = some (.int .i64 t180) ∧ w'.cell? ⟨gb171, 2, none⟩ = some (.int .i64 t181) ∧ w'.cell? ⟨gb171, 3, none⟩ = some (.string t182)) (ds := [6]) (b_ 8 0) (by kernel_rfl) rfl rfl ⟨(blk_cell BK171.out 0).trans rfl, (blk_cell BK171.out 1).trans rfl, (blk_cell BK171.out 2).trans rfl, (blk_cell BK171.out 3).trans rfl⟩ (fun hHeld => ?_); refine with_tabW millhandlaw16_two.tab3 millhandlaw16_two.bits3 (fun HT_ HW_ => ?_)
      generalize w26.drew = w27 at HO166 HO179 BK163 BK171 HB hHeld ⊢
      refine tA_ 0 17 ?_ (b_ 8 1) (take_ofW HT_.out HW_.out (by kernel_rfl)) rfl rfl (fun _ _ _ h => h) (by rfl) ?_ hHeld ?_ ?_ ?_; rotate_left
      · rintro w' ⟨s0, s1, s2, s3⟩; go_simp; with_reducible rfl
      rotate_left
      · simp only [Act.put, sa_, s0_, s1_, i64_w, i32_w]; rfl
      refine one_ (i := 1) (N := some 18) (b_ 8 3) rfl rfl (one_of HT_.out (by kernel_rfl)) (by decide) (fun K hK => ?_)
      refine goes_ Try.func32 (by kernel_rfl) rfl #[.string (⟨#[98]⟩ : ByteArray), .string (⟨#[99]⟩ : ByteArray), .string (⟨#[102]⟩ : ByteArray)] (by rfl) rfl rfl (by (try simp only [List.map_toArray, List.map_cons, List.map_nil]); first | done | rfl | (simp only [List.length_drop, List.length_take]; rfl)) ?_
      with_reducible refine (millhandlaw16_table.calls (⟨#[98]⟩ : ByteArray) (⟨#[99]⟩ : ByteArray) (⟨#[102]⟩ : ByteArray) t184 t185 t186 t187 t188 _ A4.out).mono ?_
      rintro e w28 ⟨rfl, hb⟩
      refine ⟨_, rfl, ?_⟩
      obtain ⟨HO166, HO179, BK163, BK171, HB⟩ := And.intro (Aside0.mk (Kd.S_below rS_ hb)) (And.intro (Aside0.mk (Kd.V_below rV_ hb)) (And.intro (Aside0.mk (blk_below (g := gb163) (o := .cells #[.slice none 0 0, .int .i64 0, .int .i64 0, .string (⟨#[]⟩ : ByteArray)] 24 (0, 0)) bq_ hb)) (And.intro (Aside0.mk (blk_below (g := gb171) (o := .cells #[.slice Ao21 t177.length co21, .int .i64 t180, .int .i64 t181, .string t182] 24 (0, 0)) bq_ hb)) (Aside0.mk (below_step hq_ hb)))))
      (try clear hb)
      (try clear hb2)
      (try clear hk)
      (try clear hi)
      refine hK.out _ _ ⟨(blk_cell BK171.out 0).trans rfl, (blk_cell BK171.out 1).trans rfl, (blk_cell BK171.out 2).trans rfl, (blk_cell BK171.out 3).trans rfl⟩ (fun hHeld => ?_)
      clear hK K
      refine norm_ (a' := ?_) ?_ ?_
      rotate_left
      ·
       show Act.put _ (some 18) _ = _
       simp only [Act.put, sa_, s0_, s1_, i64_w, i32_w]
       rfl
      refine one_ (i := 2) (N := some 19) (b_ 8 7) rfl rfl (one_of HT_.out (by kernel_rfl)) (by decide) (fun K hK => ?_)
      refine goes_ Try.func15 (by kernel_rfl) rfl #[.agg #[.slice Ao21 t177.length co21, .int .i64 t180, .int .i64 t181, .string t182], .agg #[.string t184, .int .i64 t185, .int .i64 t186, .string t187, .string t188]] (by rfl) rfl rfl (by (try simp only [List.map_toArray, List.map_cons, List.map_nil]); first | done | rfl | (simp only [List.length_drop, List.length_take]; rfl)) ?_
      with_reducible refine (version_Add.calls k _ _ t177 t180 t181 t182 t184 t185 t186 t187 t188 t189 t192 t193 t194 t195 _ ?side1 ?side2 A5.out).mono ?_
      (case side1 => repeat (first | exact (Kd.V_reads' HO179.out).2.2 | (with_reducible refine Kd.C_alloc ?_ _) | (with_reducible refine Kd.C_drewN ?_ _) | (with_reducible refine Kd.C_drew ?_)))
      (case side2 => exact (Kd.V_reads' HO179.out).2.1)
      rintro e w29 ⟨v190, rfl, ho0, hb⟩
      refine ⟨_, rfl, ?_⟩
      obtain ⟨HO166, HO179, HO191, BK163, BK171, HB⟩ := And.intro (Aside0.mk (Kd.S_below rS_ hb)) (And.intro (Aside0.mk (Kd.V_below rV_ hb)) (And.intro (Aside0.mk (Kd.V_lower (Kd.V_mono (ok' := fun k_ => (w.heap.size ≤ k_) ∧ some k_ ≠ (.slice Ao14 t164.length co14 : Value).ownBlock ∧ k_ ≠ gb163 ∧ k_ ≠ gb171) ho0 (fun k_ hk_ => ⟨(Nat.le_trans (below_size hq_) hk_), (Kd.fresh' (Kd.S_lt rS_) k_ hk_), (Kd.freshB (g := gb163) (o := .cells #[.slice none 0 0, .int .i64 0, .int .i64 0, .string (⟨#[]⟩ : ByteArray)] 24 (0, 0)) bq_ k_ hk_), (Kd.freshB (g := gb171) (o := .cells #[.slice Ao21 t177.length co21, .int .i64 t180, .int .i64 t181, .string t182] 24 (0, 0)) bq_ k_ hk_)⟩)) (below_size hq_))) (And.intro (Aside0.mk (blk_below (g := gb163) (o := .cells #[.slice none 0 0, .int .i64 0, .int .i64 0, .string (⟨#[]⟩ : ByteArray)] 24 (0, 0)) bq_ hb)) (And.intro (Aside0.mk (blk_below (g := gb171) (o := .cells #[.slice Ao21 t177.length co21, .int .i64 t180, .int .i64 t181, .string t182] 24 (0, 0)) bq_ hb)) (Aside0.mk (below_step hq_ hb))))))
      (try clear hb)
      (try clear hb2)
      (try clear hk)
      (try clear hi)
      (try clear ho0)
      obtain ⟨Ao30, co30, eo30⟩ := Kd.V_slice HO191.out
      (first | subst eo30 | (injection eo30 with f1_ f2_ f3_; have f4_ := f1_.symm; have f5_ := f3_.symm; clear f1_ f2_ f3_; subst f4_; subst f5_))
      refine hK.out _ _ ⟨(blk_cell BK171.out 0).trans rfl, (blk_cell BK171.out 1).trans rfl, (blk_cell BK171.out 2).trans rfl, (blk_cell BK171.out 3).trans rfl⟩ (fun hHeld => ?_)
      clear hK K
      refine norm_ (a' := ?_) ?_ ?_
      rotate_left
      ·
       show Act.put _ (some 19) _ = _
       simp only [Act.put, sa_, s0_, s1_, i64_w, i32_w]
       rfl
      refine pA_ 3 16 ?_ (b_ 8 15) (any_of HT_.out (by kernel_rfl)) rfl rfl (fun _ _ _ h => h) (by rfl) ?_ ?_ ?_ ?_; rotate_left
      · intro w'; go_simp; with_reducible rfl
      rotate_left
      · simp only [Act.put, sa_, s0_, s1_, i64_w, i32_w]; rfl
      refine pA_ 4 20 ?_ (b_ 8 31) (any_of HT_.out (by kernel_rfl)) rfl rfl (fun _ _ _ h => h) (by rfl) ?_ ?_ ?_ ?_; rotate_left
      · intro w'; go_simp; with_reducible rfl
      rotate_left
      · simp only [Act.put, sa_, s0_, s1_, i64_w, i32_w]; rfl
      refine pA_ 5 21 ?_ (b_ 8 63) (any_of HT_.out (by kernel_rfl)) rfl rfl (fun _ _ _ h => h) (by rfl) ?_ ?_ ?_ ?_; rotate_left
      · intro w'; go_simp; with_reducible rfl
      rotate_left
      · simp only [Act.put, sa_, s0_, s1_, i64_w, i32_w]; rfl
      refine last_ (i := 6) (N := none) (b_ 8 127) rfl rfl (one_of HT_.out (by kernel_rfl)) (by decide) (fun K hK => ?_)
      have hs31 : w29.cell? ⟨gb171, 0, none⟩ = some (.slice Ao21 t177.length co21) := (blk_cell BK171.out 0).trans rfl
      have hfs31 := blk_frozen BK171.out 0
      have hns31_0 := NB163_171.out
      have hms31_0 := NB171_163.out
      have hs32 : w29.cell? ⟨gb171, 1, none⟩ = some (.int .i64 t180) := (blk_cell BK171.out 1).trans rfl
      have hfs32 := blk_frozen BK171.out 1
      have hns32_0 := NB163_171.out
      have hms32_0 := NB171_163.out
      have hs33 : w29.cell? ⟨gb171, 2, none⟩ = some (.int .i64 t181) := (blk_cell BK171.out 2).trans rfl
      have hfs33 := blk_frozen BK171.out 2
      have hns33_0 := NB163_171.out
      have hms33_0 := NB171_163.out
      have hs34 : w29.cell? ⟨gb171, 3, none⟩ = some (.string t182) := (blk_cell BK171.out 3).trans rfl
      have hfs34 := blk_frozen BK171.out 3
      have hns34_0 := NB163_171.out
      have hms34_0 := NB171_163.out
      refine skip_ (w1 := ?_) (by rfl) rfl ?_ ?_; rotate_left
      · go_simp; rfl
      refine hK.out _ _ ?_
      clear hK K
      refine pA_ 7 5 ?_ (b_ 8 255) (any_of HT_.out (by kernel_rfl)) rfl rfl (fun _ _ _ h => h) (by rfl) ?_ ?_ ?_ ?_; rotate_left
      · intro w'; go_simp; with_reducible rfl
      rotate_left
      · simp only [Act.put, sa_, s0_, s1_, i64_w, i32_w]; rfl
      refine done_ (done_of HT_.out (by kernel_rfl)) ?_
      try go_wp2
      have n0_ : Aside0 (Kd.S (Kd.slice 32 k32) 27 ((((w29.setCell ⟨gb171, 0, none⟩ (.slice Ao30 t189.length co30)).setCell ⟨gb171, 1, none⟩ (.int .i64 t192)).setCell ⟨gb171, 2, none⟩ (.int .i64 t193)).setCell ⟨gb171, 3, none⟩ (.string t194)) w.heap.size (fun k_ => (w.heap.size ≤ k_)) (.slice Ao14 t164.length co14) t164) := ⟨by (with_reducible repeat (first | apply Kd.S_alloc | apply Kd.S_drewN | apply Kd.S_drew)); exact Kd.S_mono (Kd.S_far (p := ⟨gb171, 3, none⟩) (Kd.S_far (p := ⟨gb171, 2, none⟩) (Kd.S_far (p := ⟨gb171, 1, none⟩) (Kd.S_far (p := ⟨gb171, 0, none⟩) (Kd.S_types HO166.out BK171.out (by decide)) (fun _ hk => hk.2) (.slice Ao30 t189.length co30)) (fun _ hk => hk.2) (.int .i64 t192)) (fun _ hk => hk.2) (.int .i64 t193)) (fun _ hk => hk.2) (.string t194)) (fun _ hk => hk.1)⟩
      have n1_ : Aside0 (Kd.V (Kd.slice 32 k32) 27 ((((w29.setCell ⟨gb171, 0, none⟩ (.slice Ao30 t189.length co30)).setCell ⟨gb171, 1, none⟩ (.int .i64 t192)).setCell ⟨gb171, 2, none⟩ (.int .i64 t193)).setCell ⟨gb171, 3, none⟩ (.string t194)) w.heap.size (fun k_ => (w.heap.size ≤ k_) ∧ some k_ ≠ (.slice Ao14 t164.length co14 : Value).ownBlock ∧ k_ ≠ gb163 ∧ k_ ≠ gb171) (.slice Ao21 t177.length co21) t177) := ⟨by (with_reducible repeat (first | apply Kd.V_alloc | apply Kd.V_drewN | apply Kd.V_drew)); exact Kd.V_mono (Kd.V_far (p := ⟨gb171, 3, none⟩) (Kd.V_far (p := ⟨gb171, 2, none⟩) (Kd.V_far (p := ⟨gb171, 1, none⟩) (Kd.V_far (p := ⟨gb171, 0, none⟩) (Kd.V_mono HO179.out (fun k_ hk => (⟨hk, hk.2.2.2⟩ : _ ∧ k_ ≠ gb171))) (fun _ hk => hk.2) (.slice Ao30 t189.length co30)) (fun _ hk => hk.2) (.int .i64 t192)) (fun _ hk => hk.2) (.int .i64 t193)) (fun _ hk => hk.2) (.string t194)) (fun _ hk => ⟨hk.1.1, ⟨hk.1.2.1, ⟨hk.1.2.2.1, hk.1.2.2.2⟩⟩⟩)⟩
      have n2_ : Aside0 (Kd.V (Kd.slice 32 k32) 27 ((((w29.setCell ⟨gb171, 0, none⟩ (.slice Ao30 t189.length co30)).setCell ⟨gb171, 1, none⟩ (.int .i64 t192)).setCell ⟨gb171, 2, none⟩ (.int .i64 t193)).setCell ⟨gb171, 3, none⟩ (.string t194)) w.heap.size (fun k_ => (w.heap.size ≤ k_) ∧ some k_ ≠ (.slice Ao14 t164.length co14 : Value).ownBlock ∧ k_ ≠ gb163 ∧ k_ ≠ gb171) (.slice Ao30 t189.length co30) t189) := ⟨by (with_reducible repeat (first | apply Kd.V_alloc | apply Kd.V_drewN | apply Kd.V_drew)); exact Kd.V_mono (Kd.V_far (p := ⟨gb171, 3, none⟩) (Kd.V_far (p := ⟨gb171, 2, none⟩) (Kd.V_far (p := ⟨gb171, 1, none⟩) (Kd.V_far (p := ⟨gb171, 0, none⟩) (Kd.V_mono HO191.out (fun k_ hk => (⟨hk, hk.2.2.2⟩ : _ ∧ k_ ≠ gb171))) (fun _ hk => hk.2) (.slice Ao30 t189.length co30)) (fun _ hk => hk.2) (.int .i64 t192)) (fun _ hk => hk.2) (.int .i64 t193)) (fun _ hk => hk.2) (.string t194)) (fun _ hk => ⟨hk.1.1, ⟨hk.1.2.1, ⟨hk.1.2.2.1, hk.1.2.2.2⟩⟩⟩)⟩
      have n3_ : Aside0 (((((w29.setCell ⟨gb171, 0, none⟩ (.slice Ao30 t189.length co30)).setCell ⟨gb171, 1, none⟩ (.int .i64 t192)).setCell ⟨gb171, 2, none⟩ (.int .i64 t193)).setCell ⟨gb171, 3, none⟩ (.string t194)).heap[gb163]? = some (.cells #[.slice none 0 0, .int .i64 0, .int .i64 0, .string (⟨#[]⟩ : ByteArray)] 24 (0, 0))) := ⟨bf_⟩
      have n4_ : Aside0 (((((w29.setCell ⟨gb171, 0, none⟩ (.slice Ao30 t189.length co30)).setCell ⟨gb171, 1, none⟩ (.int .i64 t192)).setCell ⟨gb171, 2, none⟩ (.int .i64 t193)).setCell ⟨gb171, 3, none⟩ (.string t194)).heap[gb171]? = some (.cells #[.slice Ao30 t189.length co30, .int .i64 t192, .int .i64 t193, .string t194] 24 (0, 0))) := ⟨by (with_reducible repeat (first | refine blk_drewN ?_ _ | refine blk_drew ?_ | refine blk_alloc ?_ _)); refine blk_put (cs := #[.slice Ao30 t189.length co30, .int .i64 t192, .int .i64 t193, .string t182]) ?_ 3 _ rfl; (with_reducible repeat (first | refine blk_drewN ?_ _ | refine blk_drew ?_ | refine blk_alloc ?_ _)); refine blk_put (cs := #[.slice Ao30 t189.length co30, .int .i64 t192, .int .i64 t181, .string t182]) ?_ 2 _ rfl; (with_reducible repeat (first | refine blk_drewN ?_ _ | refine blk_drew ?_ | refine blk_alloc ?_ _)); refine blk_put (cs := #[.slice Ao30 t189.length co30, .int .i64 t180, .int .i64 t181, .string t182]) ?_ 1 _ rfl; (with_reducible repeat (first | refine blk_drewN ?_ _ | refine blk_drew ?_ | refine blk_alloc ?_ _)); refine blk_put (cs := #[.slice Ao21 t177.length co21, .int .i64 t180, .int .i64 t181, .string t182]) ?_ 0 _ rfl; (with_reducible repeat (first | refine blk_drewN ?_ _ | refine blk_drew ?_ | refine blk_alloc ?_ _)); exact BK171.out⟩
      have n5_ : Aside0 (Below w.heap.size w ((((w29.setCell ⟨gb171, 0, none⟩ (.slice Ao30 t189.length co30)).setCell ⟨gb171, 1, none⟩ (.int .i64 t192)).setCell ⟨gb171, 2, none⟩ (.int .i64 t193)).setCell ⟨gb171, 3, none⟩ (.string t194))) := ⟨hq_⟩
      (try clear HO166)
      (try clear HO179)
      (try clear HO191)
      (try clear BK163)
      (try clear BK171)
      (try clear HB)
      generalize ((((w29.setCell ⟨gb171, 0, none⟩ (.slice Ao30 t189.length co30)).setCell ⟨gb171, 1, none⟩ (.int .i64 t192)).setCell ⟨gb171, 2, none⟩ (.int .i64 t193)).setCell ⟨gb171, 3, none⟩ (.string t194)) = w35 at n0_ n1_ n2_ n3_ n4_ n5_ ⊢
      have HO166 := n0_
      have HO179 := n1_
      have HO191 := n2_
      have BK163 := n3_
      have BK171 := n4_
      have HB := n5_
      clear n0_ n1_ n2_ n3_ n4_ n5_
      obtain ⟨HO166, HO179, HO191, BK163, BK171, HB⟩ := And.intro (Aside0.mk (Kd.S_drew HO166.out)) (And.intro (Aside0.mk (Kd.V_drew HO179.out)) (And.intro (Aside0.mk (Kd.V_drew HO191.out)) (And.intro (Aside0.mk (blk_drew BK163.out)) (And.intro (Aside0.mk (blk_drew BK171.out)) (Aside0.mk (below_drew1 HB.out))))))
      have p196 : 0 ≤ (0 : Int) := (by omega)
      have q196 : 0 < (t189.length : Int) := of_decide_eq_true (by first | (with_reducible assumption) | assumption)
      obtain ⟨ad196, A196_0, c196_0, e196, hx196_0, hl196_0, hi196_0⟩ := at_L3 (Kd.V_reads' HO191.out).2.2 0 p196 q196
      cases e196
      obtain ⟨ce196, hce196, hMe196, hcc196⟩ := Kd.V_get HO191.out [] 0 p196 (by first | exact q196 | exact of_decide_eq_true (by first | (with_reducible assumption) | assumption) | (have e_ := (Kd.V_reads' HO191.out).1; omega))
      obtain ⟨ua196_0, uc196_0, rfl, ul196_0, ge196_0⟩ := Kd.FK_slice_open hMe196
      have hv196_0 := hcc196 0 _ rfl
      rw [Nat.add_zero, show ((Kd.slice 32 k32)).sz = 1 from rfl, Nat.mul_one] at hv196_0
      replace hv196_0 := Option.some.inj (hv196_0.symm.trans hx196_0)
      injection hv196_0 with hva_ hvn_ hvc_
      rw [hva_] at ge196_0
      rw [hvc_] at ul196_0
      have HL196_0 := Aside0.mk (show Kd.V k32 32 _ w.heap.size _ _ (rd_L3 t189 0) from Kd.V_mk ul196_0 ge196_0)
      clear hva_ hvn_ hvc_ ge196_0 ul196_0
      clear hcc196 hce196
      have qi196 : (0 < t189.length) = True := eq_true (by omega)
      (try rw [show ((0 : Int)).toNat = 0 from rfl] at hx196_0)
      (try rw [Addr.add_zero'] at hx196_0)
      have HR196_0 := Aside0.mk hi196_0
      have HC196_0 := Aside0.mk hl196_0
      clear hi196_0 hl196_0
      replace p196 := eq_true p196
      replace q196 := eq_true q196
      refine start_ (n := 27) (S := fun w' => w'.cell? ⟨gb171, 0, none⟩ = some (.slice (some ad196) t189.length co30) ∧ w'.cell? ⟨gb171, 1, none⟩ = some (.int .i64 t192) ∧ w'.cell? ⟨gb171, 2, none⟩ = some (.int .i64 t193) ∧ w'.cell? ⟨gb171, 3, none⟩ = some (.string t194) ∧ w'.cell? ad196 = some (.slice A196_0 (rd_L3 t189 0).length c196_0)) (ds := []) (b_ 27 0) (by kernel_rfl) rfl rfl ⟨(blk_cell BK171.out 0).trans rfl, (blk_cell BK171.out 1).trans rfl, (blk_cell BK171.out 2).trans rfl, (blk_cell BK171.out 3).trans rfl, hx196_0⟩ (fun hHeld => ?_); refine with_tabW millhandlaw16_two.tab4 millhandlaw16_two.bits4 (fun HT_ HW_ => ?_)
      generalize w35.drew = w36 at HO166 HO179 HO191 BK163 BK171 HB HL196_0 HR196_0 hx196_0 hHeld ⊢
      refine pA_ 1 23 ?_ (b_ 27 2) (any_of HT_.out (by kernel_rfl)) rfl rfl (fun _ _ _ h => h) (by rfl) ?_ ?_ ?_ ?_; rotate_left
      · intro w'; go_simp; with_reducible rfl
      rotate_left
      · simp only [Act.put, sa_, s0_, s1_, i64_w, i32_w]; rfl
      refine pA_ 2 24 ?_ (b_ 27 6) (any_of HT_.out (by kernel_rfl)) rfl rfl (fun _ _ _ h => h) (by rfl) ?_ ?_ ?_ ?_; rotate_left
      · intro w'; go_simp; with_reducible rfl
      rotate_left
      · simp only [Act.put, sa_, s0_, s1_, i64_w, i32_w]; rfl
      refine pA_ 3 25 ?_ (b_ 27 14) (any_of HT_.out (by kernel_rfl)) rfl rfl (fun _ _ _ h => h) (by rfl) ?_ ?_ ?_ ?_; rotate_left
      · intro w'; go_simp; with_reducible rfl
      rotate_left
      · simp only [Act.put, sa_, s0_, s1_, i64_w, i32_w]; rfl
      refine pA_ 4 26 ?_ (b_ 27 30) (any_of HT_.out (by kernel_rfl)) rfl rfl (fun _ _ _ h => h) (by rfl) ?_ ?_ ?_ ?_; rotate_left
      · intro w'; go_simp; with_reducible rfl
      rotate_left
      · simp only [Act.put, sa_, s0_, s1_, i64_w, i32_w]; rfl
      refine pA_ 5 27 ?_ (b_ 27 62) (any_of HT_.out (by kernel_rfl)) rfl rfl (fun _ _ _ h => h) (by rfl) ?_ ?_ ?_ ?_; rotate_left
      · intro w'; go_simp; with_reducible rfl
      rotate_left
      · simp only [Act.put, sa_, s0_, s1_, i64_w, i32_w]; rfl
      refine pA_ 6 28 ?_ (b_ 27 126) (any_of HT_.out (by kernel_rfl)) rfl rfl (fun _ _ _ h => h) (by rfl) ?_ ?_ ?_ ?_; rotate_left
      · intro w'; go_simp; with_reducible rfl
      rotate_left
      · simp only [Act.put, sa_, s0_, s1_, i64_w, i32_w]; rfl
      refine pA_ 7 29 ?_ (b_ 27 254) (any_of HT_.out (by kernel_rfl)) rfl rfl (fun _ _ _ h => h) (by rfl) ?_ ?_ ?_ ?_; rotate_left
      · intro w'; go_simp; with_reducible rfl
      rotate_left
      · simp only [Act.put, sa_, s0_, s1_, i64_w, i32_w]; rfl
      refine pA_ 8 30 ?_ (b_ 27 510) (any_of HT_.out (by kernel_rfl)) rfl rfl (fun _ _ _ h => h) (by rfl) ?_ ?_ ?_ ?_; rotate_left
      · intro w'; go_simp; with_reducible rfl
      rotate_left
      · simp only [Act.put, sa_, s0_, s1_, i64_w, i32_w]; rfl
      refine pA_ 9 31 ?_ (b_ 27 1022) (any_of HT_.out (by kernel_rfl)) rfl rfl (fun _ _ _ h => h) (by rfl) ?_ ?_ ?_ ?_; rotate_left
      · intro w'; go_simp; with_reducible rfl
      rotate_left
      · simp only [Act.put, sa_, s0_, s1_, i64_w, i32_w]; rfl
      refine pA_ 10 32 ?_ (b_ 27 2046) (any_of HT_.out (by kernel_rfl)) rfl rfl (fun _ _ _ h => h) (by rfl) ?_ ?_ ?_ ?_; rotate_left
      · intro w'; go_simp; with_reducible rfl
      rotate_left
      · simp only [Act.put, sa_, s0_, s1_, i64_w, i32_w]; rfl
      refine pA_ 11 33 ?_ (b_ 27 4094) (any_of HT_.out (by kernel_rfl)) rfl rfl (fun _ _ _ h => h) (by rfl) ?_ ?_ ?_ ?_; rotate_left
      · intro w'; go_simp; with_reducible rfl
      rotate_left
      · simp only [Act.put, sa_, s0_, s1_, i64_w, i32_w]; rfl
      refine pA_ 12 34 ?_ (b_ 27 8190) (any_of HT_.out (by kernel_rfl)) rfl rfl (fun _ _ _ h => h) (by rfl) ?_ ?_ ?_ ?_; rotate_left
      · intro w'; go_simp; with_reducible rfl
      rotate_left
      · simp only [Act.put, sa_, s0_, s1_, i64_w, i32_w]; rfl
      refine tA_ 0 22 ?_ (b_ 27 8191) (take_ofW HT_.out HW_.out (by kernel_rfl)) rfl rfl (fun _ _ _ h => h) (by rfl) ?_ hHeld ?_ ?_ ?_; rotate_left
      · rintro w' ⟨s0, s1, s2, s3, s4⟩; go_simp; with_reducible rfl
      rotate_left
      · simp only [Act.put, sa_, s0_, s1_, i64_w, i32_w]; rfl
      refine tA_ 13 35 ?_ (b_ 27 16383) (take_ofW HT_.out HW_.out (by kernel_rfl)) rfl rfl (fun _ _ _ h => h) (by rfl) ?_ hHeld ?_ ?_ ?_; rotate_left
      · rintro w' ⟨s0, s1, s2, s3, s4⟩; go_simp; with_reducible rfl
      rotate_left
      · simp only [Act.put, sa_, s0_, s1_, i64_w, i32_w]; rfl
      refine pA_ 14 36 ?_ (b_ 27 32767) (any_of HT_.out (by kernel_rfl)) rfl rfl (fun _ _ _ h => h) (by rfl) ?_ ?_ ?_ ?_; rotate_left
      · intro w'; go_simp; with_reducible rfl
      rotate_left
      · simp only [Act.put, sa_, s0_, s1_, i64_w, i32_w]; rfl
      refine pA_ 15 37 ?_ (b_ 27 65535) (any_of HT_.out (by kernel_rfl)) rfl rfl (fun _ _ _ h => h) (by rfl) ?_ ?_ ?_ ?_; rotate_left
      · intro w'; go_simp; with_reducible rfl
      rotate_left
      · simp only [Act.put, sa_, s0_, s1_, i64_w, i32_w]; rfl
      refine pA_ 16 38 ?_ (b_ 27 131071) (any_of HT_.out (by kernel_rfl)) rfl rfl (fun _ _ _ h => h) (by rfl) ?_ ?_ ?_ ?_; rotate_left
      · intro w'; go_simp; with_reducible rfl
      rotate_left
      · simp only [Act.put, sa_, s0_, s1_, i64_w, i32_w]; rfl
      refine pA_ 17 39 ?_ (b_ 27 262143) (any_of HT_.out (by kernel_rfl)) rfl rfl (fun _ _ _ h => h) (by rfl) ?_ ?_ ?_ ?_; rotate_left
      · intro w'; go_simp; with_reducible rfl
      rotate_left
      · simp only [Act.put, sa_, s0_, s1_, i64_w, i32_w]; rfl
      refine pA_ 18 40 ?_ (b_ 27 524287) (any_of HT_.out (by kernel_rfl)) rfl rfl (fun _ _ _ h => h) (by rfl) ?_ ?_ ?_ ?_; rotate_left
      · intro w'; go_simp; with_reducible rfl
      rotate_left
      · simp only [Act.put, sa_, s0_, s1_, i64_w, i32_w]; rfl
      refine tA_ 19 41 ?_ (b_ 27 1048575) (take_ofW HT_.out HW_.out (by kernel_rfl)) rfl rfl (fun _ _ _ h => h) (by rfl) ?_ hHeld ?_ ?_ ?_; rotate_left
      · rintro w' ⟨s0, s1, s2, s3, s4⟩; go_simp; with_reducible rfl
      rotate_left
      · simp only [Act.put, sa_, s0_, s1_, i64_w, i32_w]; rfl
      refine pA_ 20 42 ?_ (b_ 27 2097151) (any_of HT_.out (by kernel_rfl)) rfl rfl (fun _ _ _ h => h) (by rfl) ?_ ?_ ?_ ?_; rotate_left
      · intro w'; go_simp; with_reducible rfl
      rotate_left
      · simp only [Act.put, sa_, s0_, s1_, i64_w, i32_w]; rfl
      refine tA_ 21 43 ?_ (b_ 27 4194303) (take_ofW HT_.out HW_.out (by kernel_rfl)) rfl rfl (fun _ _ _ h => h) (by rfl) ?_ hHeld ?_ ?_ ?_; rotate_left
      · rintro w' ⟨s0, s1, s2, s3, s4⟩; go_simp; with_reducible rfl
      rotate_left
      · simp only [Act.put, sa_, s0_, s1_, i64_w, i32_w]; rfl
      refine pA_ 22 44 ?_ (b_ 27 8388607) (any_of HT_.out (by kernel_rfl)) rfl rfl (fun _ _ _ h => h) (by rfl) ?_ ?_ ?_ ?_; rotate_left
      · intro w'; go_simp; with_reducible rfl
      rotate_left
      · simp only [Act.put, sa_, s0_, s1_, i64_w, i32_w]; rfl
      refine pA_ 23 45 ?_ (b_ 27 16777215) (any_of HT_.out (by kernel_rfl)) rfl rfl (fun _ _ _ h => h) (by rfl) ?_ ?_ ?_ ?_; rotate_left
      · intro w'; go_simp; with_reducible rfl
      rotate_left
      · simp only [Act.put, sa_, s0_, s1_, i64_w, i32_w]; rfl
      refine pA_ 24 46 ?_ (b_ 27 33554431) (any_of HT_.out (by kernel_rfl)) rfl rfl (fun _ _ _ h => h) (by rfl) ?_ ?_ ?_ ?_; rotate_left
      · intro w'; go_simp; with_reducible rfl
      rotate_left
      · simp only [Act.put, sa_, s0_, s1_, i64_w, i32_w]; rfl
      refine one_ (i := 25) (N := none) (b_ 27 67108863) rfl rfl (one_of HT_.out (by kernel_rfl)) (by decide) (fun K hK => ?_)
      have hs37 : w36.cell? ⟨gb163, 0, none⟩ = some (.slice none 0 0) := (blk_cell BK163.out 0).trans rfl
      have hfs37 := blk_frozen BK163.out 0
      have hns37_1 := NB171_163.out
      have hms37_1 := NB163_171.out
      have hs38 : w36.cell? ⟨gb163, 1, none⟩ = some (.int .i64 0) := (blk_cell BK163.out 1).trans rfl
      have hfs38 := blk_frozen BK163.out 1
      have hns38_1 := NB171_163.out
      have hms38_1 := NB163_171.out
      have hs39 : w36.cell? ⟨gb163, 2, none⟩ = some (.int .i64 0) := (blk_cell BK163.out 2).trans rfl
      have hfs39 := blk_frozen BK163.out 2
      have hns39_1 := NB171_163.out
      have hms39_1 := NB163_171.out
      have hs40 : w36.cell? ⟨gb163, 3, none⟩ = some (.string (⟨#[]⟩ : ByteArray)) := (blk_cell BK163.out 3).trans rfl
      have hfs40 := blk_frozen BK163.out 3
      have hns40_1 := NB171_163.out
      have hms40_1 := NB163_171.out
      refine skip_ (w1 := ?_) (by rfl) rfl ?_ ?_; rotate_left
      · go_simp; rfl
      refine hK.out _ _ ⟨((cell_far (p := ⟨gb163, _, none⟩) NB171_163.out _).trans (((cell_far (p := ⟨gb163, _, none⟩) NB171_163.out _).trans (((cell_far (p := ⟨gb163, _, none⟩) NB171_163.out _).trans (((cell_far (p := ⟨gb163, _, none⟩) NB171_163.out _).trans (hHeld.1)))))))), ((cell_far (p := ⟨gb163, _, none⟩) NB171_163.out _).trans (((cell_far (p := ⟨gb163, _, none⟩) NB171_163.out _).trans (((cell_far (p := ⟨gb163, _, none⟩) NB171_163.out _).trans (((cell_far (p := ⟨gb163, _, none⟩) NB171_163.out _).trans (hHeld.2.1)))))))), ((cell_far (p := ⟨gb163, _, none⟩) NB171_163.out _).trans (((cell_far (p := ⟨gb163, _, none⟩) NB171_163.out _).trans (((cell_far (p := ⟨gb163, _, none⟩) NB171_163.out _).trans (((cell_far (p := ⟨gb163, _, none⟩) NB171_163.out _).trans (hHeld.2.2.1)))))))), ((cell_far (p := ⟨gb163, _, none⟩) NB171_163.out _).trans (((cell_far (p := ⟨gb163, _, none⟩) NB171_163.out _).trans (((cell_far (p := ⟨gb163, _, none⟩) NB171_163.out _).trans (((cell_far (p := ⟨gb163, _, none⟩) NB171_163.out _).trans (hHeld.2.2.2.1)))))))), ((cell_far (p := ⟨gb163, _, none⟩) (Aw.V_away1 HO191.out (of_decide_eq_true (by with_reducible assumption)) (fun _ hk => hk.2.2.1)) _).trans (((cell_far (p := ⟨gb163, _, none⟩) (Aw.V_away1 HO191.out (of_decide_eq_true (by with_reducible assumption)) (fun _ hk => hk.2.2.1)) _).trans (((cell_far (p := ⟨gb163, _, none⟩) (Aw.V_away1 HO191.out (of_decide_eq_true (by with_reducible assumption)) (fun _ hk => hk.2.2.1)) _).trans (((cell_far (p := ⟨gb163, _, none⟩) (Aw.V_away1 HO191.out (of_decide_eq_true (by with_reducible assumption)) (fun _ hk => hk.2.2.1)) _).trans (hHeld.2.2.2.2))))))))⟩ (fun hHeld => ?_)
      clear hK K
      refine pA_ 26 1 ?_ (b_ 27 134217727) (any_of HT_.out (by kernel_rfl)) rfl rfl (fun _ _ _ h => h) (by rfl) ?_ ?_ ?_ ?_; rotate_left
      · intro w'; go_simp; with_reducible rfl
      rotate_left
      · simp only [Act.put, sa_, s0_, s1_, i64_w, i32_w]; rfl
      refine done_ (done_of HT_.out (by kernel_rfl)) ?_
      try go_wp2
      refine bodyPost_ret (results_ct rfl _ _ gb163 24 #[.slice (some ad196) t189.length co30, .int .i64 t192, .int .i64 t193, .string t194] (0, 0) _ rfl (by (with_reducible repeat (first | refine blk_drewN ?_ _ | refine blk_drew ?_ | refine blk_alloc ?_ _)); refine blk_put (cs := #[.slice (some ad196) t189.length co30, .int .i64 t192, .int .i64 t193, .string (⟨#[]⟩ : ByteArray)]) ?_ 3 _ rfl; (with_reducible repeat (first | refine blk_drewN ?_ _ | refine blk_drew ?_ | refine blk_alloc ?_ _)); refine blk_put (cs := #[.slice (some ad196) t189.length co30, .int .i64 t192, .int .i64 0, .string (⟨#[]⟩ : ByteArray)]) ?_ 2 _ rfl; (with_reducible repeat (first | refine blk_drewN ?_ _ | refine blk_drew ?_ | refine blk_alloc ?_ _)); refine blk_put (cs := #[.slice (some ad196) t189.length co30, .int .i64 0, .int .i64 0, .string (⟨#[]⟩ : ByteArray)]) ?_ 1 _ rfl; (with_reducible repeat (first | refine blk_drewN ?_ _ | refine blk_drew ?_ | refine blk_alloc ?_ _)); refine blk_put (cs := #[.slice none 0 0, .int .i64 0, .int .i64 0, .string (⟨#[]⟩ : ByteArray)]) ?_ 0 _ rfl; (with_reducible repeat (first | refine blk_drewN ?_ _ | refine blk_drew ?_ | refine blk_alloc ?_ _)); exact BK163.out) Try.underlying24 rfl (by kernel_rfl)) rfl ?_
      exact ⟨_, by first | rfl | (simp [errW_none, errW_some] <;> rfl) | (simp [*, errW_none, errW_some] <;> rfl) | exact ret_ie _ | (simp [*, errW_none, errW_some, bne]; done), by (with_reducible repeat (first | apply Kd.V_alloc | apply Kd.V_drewN | apply Kd.V_drew)); exact Kd.V_mono (Kd.V_far (p := ⟨gb163, 3, none⟩) (Kd.V_far (p := ⟨gb163, 2, none⟩) (Kd.V_far (p := ⟨gb163, 1, none⟩) (Kd.V_far (p := ⟨gb163, 0, none⟩) (Kd.V_mono HO191.out (fun k_ hk => (⟨hk, hk.2.2.1⟩ : _ ∧ k_ ≠ gb163))) (fun _ hk => hk.2) (.slice (some ad196) t189.length co30)) (fun _ hk => hk.2) (.int .i64 t192)) (fun _ hk => hk.2) (.int .i64 t193)) (fun _ hk => hk.2) (.string t194)) (fun _ hk => hk.1.1), by repeat (first | (with_reducible first | exact HB.out | apply below_alloc | apply pw_below_drewN | apply below_drew1 | refine below_set ?_ GE163.out | refine below_set ?_ GE171.out) | exact HB.out)⟩
     ·
      rw [if_neg c10] at H
      exact absurd H (by simp)
    ·
     rw [if_neg c9] at H
     have c9b0 : ((t189.length : Int) == 4) = false := beq_eq_false_iff_ne.mpr c9
     have c9b1 : ((t189.length : Int) != 4) = true := bne_iff_ne.mpr c9
     simp only [Option.some.injEq, Prod.mk.injEq] at H
     obtain ⟨rfl, rfl, rfl, rfl, rfl⟩ := H
     go_enter Try.func31, Try.ntmps31
     try go_wp2_with (first | ((with_reducible refine gate_dst (N := 0) rfl ?_); (try (refine gate_guard (by rfl) ?_; dsimp only)); refine box_event ?hg (N := 0) ?hd (cs := #[.slice none 0 0, .int .i64 0, .int .i64 0, .string (⟨#[]⟩ : ByteArray)]) (t := 24) ?hr ?_; (case hd => rfl); (case hg => rfl); (case hr => first | (go_simp; done) | (go_simp; rfl)); intro gb163 hg w41 hbox hb; have n0_ := Aside0.mk (below_step hq_ hb); have n1_ := Aside0.mk (hbox); have n2_ := Aside0.mk ((by rw [hg]; exact (below_size hq_) : w.heap.size ≤ gb163)); have n3_ := Aside0.mk ((by rw [hg]; exact (below_size hq_) : w.heap.size ≤ gb163)); clear HB; have HB := n0_; have BK163 := n1_; have GW163 := n2_; have GE163 := n3_; clear n0_ n1_ n2_ n3_; clear hb hbox hg) | ((with_reducible refine gate_callee (f := 19) rfl ?_); refine goesL_ (some 7) rfl rfl Try.func19 (by kernel_rfl) rfl #[.string (⟨#[108, 111, 103]⟩ : ByteArray)] rfl (by (try simp only [List.map_toArray, List.map_cons, List.map_nil]); first | done | rfl | (simp only [List.length_drop, List.length_take]; rfl)) ?_; (with_reducible refine (version_New.calls (⟨#[108, 111, 103]⟩ : ByteArray) t164 t167 t168 t169 t170 _ A1.out).mono ?_); rintro e w42 ⟨v165, rfl, ho0, hb⟩; refine ⟨_, rfl, ?_⟩; have n0_ := Aside0.mk (Kd.S_lower (Kd.S_newM (M := fun k_ => (w.heap.size ≤ k_)) ho0 (below_size hq_) (fun k_ h_ => h_)) (below_size hq_)); have n1_ := Aside0.mk (blk_below (g := gb163) (o := .cells #[.slice none 0 0, .int .i64 0, .int .i64 0, .string (⟨#[]⟩ : ByteArray)] 24 (0, 0)) bq_ hb); have n2_ := Aside0.mk (below_step hq_ hb); clear BK163; clear HB; have HO166 := n0_; have BK163 := n1_; have HB := n2_; clear n0_ n1_ n2_; (try clear hb); (try clear hb2); (try clear hk); (try clear hi); (try clear ho0)) | ((with_reducible refine gate_dst (N := 2) rfl ?_); (try (refine gate_guard (by rfl) ?_; dsimp only)); refine box_event ?hg (N := 2) ?hd (cs := #[.slice none 0 0, .int .i64 0, .int .i64 0, .string (⟨#[]⟩ : ByteArray)]) (t := 24) ?hr ?_; (case hd => rfl); (case hg => rfl); (case hr => first | (go_simp; done) | (go_simp; rfl)); intro gb171 hg w43 hbox hb; have n0_ := Aside0.mk (Kd.S_below rS_ hb); have n1_ := Aside0.mk (blk_below (g := gb163) (o := .cells #[.slice none 0 0, .int .i64 0, .int .i64 0, .string (⟨#[]⟩ : ByteArray)] 24 (0, 0)) bq_ hb); have n2_ := Aside0.mk (below_step hq_ hb); have n3_ := Aside0.mk (hbox); have n4_ := Aside0.mk ((by rw [hg]; exact (below_size hq_) : w.heap.size ≤ gb171)); have n5_ := Aside0.mk ((by rw [hg]; exact (below_size hq_) : w.heap.size ≤ gb171)); have n6_ := Aside0.mk ((by rw [hg]; exact Nat.ne_of_lt (blk_lt (g := gb163) (o := .cells #[.slice none 0 0, .int .i64 0, .int .i64 0, .string (⟨#[]⟩ : ByteArray)] 24 (0, 0)) bq_) : gb163 ≠ gb171)); have n7_ := Aside0.mk ((by rw [hg]; exact Nat.ne_of_gt (blk_lt (g := gb163) (o := .cells #[.slice none 0 0, .int .i64 0, .int .i64 0, .string (⟨#[]⟩ : ByteArray)] 24 (0, 0)) bq_) : gb171 ≠ gb163)); clear HO166; clear BK163; clear HB; have HO166 := n0_; have BK163 := n1_; have HB := n2_; have BK171 := n3_; have GW171 := n4_; have GE171 := n5_; have NB163_171 := n6_; have NB171_163 := n7_; clear n0_ n1_ n2_ n3_ n4_ n5_ n6_ n7_; clear hb hbox hg; obtain ⟨Ao44, co44, eo44⟩ := Kd.S_slice HO166.out; subst eo44; have hnb45 := NB171_163.out; have hnc45 := NB163_171.out; have hcz46_0 : w43.cell? ⟨gb171, 0, none⟩ = some (.slice none 0 0) := (blk_cell BK171.out 0).trans rfl; have hcz46_1 : w43.cell? ⟨gb171, 1, none⟩ = some (.int .i64 0) := (blk_cell BK171.out 1).trans rfl; have hcz46_2 : w43.cell? ⟨gb171, 2, none⟩ = some (.int .i64 0) := (blk_cell BK171.out 2).trans rfl; have hcz46_3 : w43.cell? ⟨gb171, 3, none⟩ = some (.string (⟨#[]⟩ : ByteArray)) := (blk_cell BK171.out 3).trans rfl; have hfz46_0 := blk_frozen BK171.out 0; have hfz46_1 := blk_frozen BK171.out 1; have hfz46_2 := blk_frozen BK171.out 2; have hfz46_3 := blk_frozen BK171.out 3))
     have n0_ : Aside0 (Kd.S (Kd.slice 32 k32) 27 ((((w43.setCell ⟨gb171, 0, none⟩ (.slice Ao44 t164.length co44)).setCell ⟨gb171, 1, none⟩ (.int .i64 t167)).setCell ⟨gb171, 2, none⟩ (.int .i64 t168)).setCell ⟨gb171, 3, none⟩ (.string t169)) w.heap.size (fun k_ => (w.heap.size ≤ k_)) (.slice Ao44 t164.length co44) t164) := ⟨by (with_reducible repeat (first | apply Kd.S_alloc | apply Kd.S_drewN | apply Kd.S_drew)); exact Kd.S_mono (Kd.S_far (p := ⟨gb171, 3, none⟩) (Kd.S_far (p := ⟨gb171, 2, none⟩) (Kd.S_far (p := ⟨gb171, 1, none⟩) (Kd.S_far (p := ⟨gb171, 0, none⟩) (Kd.S_types HO166.out BK171.out (by decide)) (fun _ hk => hk.2) (.slice Ao44 t164.length co44)) (fun _ hk => hk.2) (.int .i64 t167)) (fun _ hk => hk.2) (.int .i64 t168)) (fun _ hk => hk.2) (.string t169)) (fun _ hk => hk.1.1)⟩
     have n1_ : Aside0 (((((w43.setCell ⟨gb171, 0, none⟩ (.slice Ao44 t164.length co44)).setCell ⟨gb171, 1, none⟩ (.int .i64 t167)).setCell ⟨gb171, 2, none⟩ (.int .i64 t168)).setCell ⟨gb171, 3, none⟩ (.string t169)).heap[gb163]? = some (.cells #[.slice none 0 0, .int .i64 0, .int .i64 0, .string (⟨#[]⟩ : ByteArray)] 24 (0, 0))) := ⟨bf_⟩
     have n2_ : Aside0 (((((w43.setCell ⟨gb171, 0, none⟩ (.slice Ao44 t164.length co44)).setCell ⟨gb171, 1, none⟩ (.int .i64 t167)).setCell ⟨gb171, 2, none⟩ (.int .i64 t168)).setCell ⟨gb171, 3, none⟩ (.string t169)).heap[gb171]? = some (.cells #[.slice Ao44 t164.length co44, .int .i64 t167, .int .i64 t168, .string t169] 24 (0, 0))) := ⟨by (with_reducible repeat (first | refine blk_drewN ?_ _ | refine blk_drew ?_ | refine blk_alloc ?_ _)); refine blk_put (cs := #[.slice Ao44 t164.length co44, .int .i64 t167, .int .i64 t168, .string (⟨#[]⟩ : ByteArray)]) ?_ 3 _ rfl; (with_reducible repeat (first | refine blk_drewN ?_ _ | refine blk_drew ?_ | refine blk_alloc ?_ _)); refine blk_put (cs := #[.slice Ao44 t164.length co44, .int .i64 t167, .int .i64 0, .string (⟨#[]⟩ : ByteArray)]) ?_ 2 _ rfl; (with_reducible repeat (first | refine blk_drewN ?_ _ | refine blk_drew ?_ | refine blk_alloc ?_ _)); refine blk_put (cs := #[.slice Ao44 t164.length co44, .int .i64 0, .int .i64 0, .string (⟨#[]⟩ : ByteArray)]) ?_ 1 _ rfl; (with_reducible repeat (first | refine blk_drewN ?_ _ | refine blk_drew ?_ | refine blk_alloc ?_ _)); refine blk_put (cs := #[.slice none 0 0, .int .i64 0, .int .i64 0, .string (⟨#[]⟩ : ByteArray)]) ?_ 0 _ rfl; (with_reducible repeat (first | refine blk_drewN ?_ _ | refine blk_drew ?_ | refine blk_alloc ?_ _)); exact BK171.out⟩
     have n3_ : Aside0 (Below w.heap.size w ((((w43.setCell ⟨gb171, 0, none⟩ (.slice Ao44 t164.length co44)).setCell ⟨gb171, 1, none⟩ (.int .i64 t167)).setCell ⟨gb171, 2, none⟩ (.int .i64 t168)).setCell ⟨gb171, 3, none⟩ (.string t169))) := ⟨hq_⟩
     (try clear HO166)
     (try clear BK163)
     (try clear BK171)
     (try clear HB)
     generalize ((((w43.setCell ⟨gb171, 0, none⟩ (.slice Ao44 t164.length co44)).setCell ⟨gb171, 1, none⟩ (.int .i64 t167)).setCell ⟨gb171, 2, none⟩ (.int .i64 t168)).setCell ⟨gb171, 3, none⟩ (.string t169)) = w47 at n0_ n1_ n2_ n3_ ⊢
     have HO166 := n0_
     have BK163 := n1_
     have BK171 := n2_
     have HB := n3_
     clear n0_ n1_ n2_ n3_
     obtain ⟨HO166, BK163, BK171, HB⟩ := And.intro (Aside0.mk (Kd.S_drew HO166.out)) (And.intro (Aside0.mk (blk_drew BK163.out)) (And.intro (Aside0.mk (blk_drew BK171.out)) (Aside0.mk (below_drew1 HB.out))))
     refine start_ (n := 8) (S := fun w' => w'.cell? ⟨gb171, 0, none⟩ = some (.slice Ao44 t164.length co44) ∧ w'.cell? ⟨gb171, 1, none⟩ = some (.int .i64 t167) ∧ w'.cell? ⟨gb171, 2, none⟩ = some (.int .i64 t168) ∧ w'.cell? ⟨gb171, 3, none⟩ = some (.string t169)) (ds := [6]) (b_ 8 0) (by kernel_rfl) rfl rfl ⟨(blk_cell BK171.out 0).trans rfl, (blk_cell BK171.out 1).trans rfl, (blk_cell BK171.out 2).trans rfl, (blk_cell BK171.out 3).trans rfl⟩ (fun hHeld => ?_); refine with_tabW millhandlaw16_two.tab2 millhandlaw16_two.bits2 (fun HT_ HW_ => ?_)
     generalize w47.drew = w48 at HO166 BK163 BK171 HB hHeld ⊢
     refine tA_ 0 11 ?_ (b_ 8 1) (take_ofW HT_.out HW_.out (by kernel_rfl)) rfl rfl (fun _ _ _ h => h) (by rfl) ?_ hHeld ?_ ?_ ?_; rotate_left
     · rintro w' ⟨s0, s1, s2, s3⟩; go_simp; with_reducible rfl
     rotate_left
     · simp only [Act.put, sa_, s0_, s1_, i64_w, i32_w]; rfl
     refine one_ (i := 1) (N := some 12) (b_ 8 3) rfl rfl (one_of HT_.out (by kernel_rfl)) (by decide) (fun K hK => ?_)
     refine goes_ Try.func32 (by kernel_rfl) rfl #[.string (⟨#[97]⟩ : ByteArray), .string (⟨#[98]⟩ : ByteArray), .string (⟨#[100]⟩ : ByteArray)] (by rfl) rfl rfl (by (try simp only [List.map_toArray, List.map_cons, List.map_nil]); first | done | rfl | (simp only [List.length_drop, List.length_take]; rfl)) ?_
     with_reducible refine (millhandlaw16_table.calls (⟨#[97]⟩ : ByteArray) (⟨#[98]⟩ : ByteArray) (⟨#[100]⟩ : ByteArray) t172 t173 t174 t175 t176 _ A2.out).mono ?_
     rintro e w49 ⟨rfl, hb⟩
     refine ⟨_, rfl, ?_⟩
     obtain ⟨HO166, BK163, BK171, HB⟩ := And.intro (Aside0.mk (Kd.S_below rS_ hb)) (And.intro (Aside0.mk (blk_below (g := gb163) (o := .cells #[.slice none 0 0, .int .i64 0, .int .i64 0, .string (⟨#[]⟩ : ByteArray)] 24 (0, 0)) bq_ hb)) (And.intro (Aside0.mk (blk_below (g := gb171) (o := .cells #[.slice Ao44 t164.length co44, .int .i64 t167, .int .i64 t168, .string t169] 24 (0, 0)) bq_ hb)) (Aside0.mk (below_step hq_ hb))))
     (try clear hb)
     (try clear hb2)
     (try clear hk)
     (try clear hi)
     refine hK.out _ _ ⟨(blk_cell BK171.out 0).trans rfl, (blk_cell BK171.out 1).trans rfl, (blk_cell BK171.out 2).trans rfl, (blk_cell BK171.out 3).trans rfl⟩ (fun hHeld => ?_)
     clear hK K
     refine norm_ (a' := ?_) ?_ ?_
     rotate_left
     ·
      show Act.put _ (some 12) _ = _
      simp only [Act.put, sa_, s0_, s1_, i64_w, i32_w]
      rfl
     refine one_ (i := 2) (N := some 13) (b_ 8 7) rfl rfl (one_of HT_.out (by kernel_rfl)) (by decide) (fun K hK => ?_)
     refine goes_ Try.func15 (by kernel_rfl) rfl #[.agg #[.slice Ao44 t164.length co44, .int .i64 t167, .int .i64 t168, .string t169], .agg #[.string t172, .int .i64 t173, .int .i64 t174, .string t175, .string t176]] (by rfl) rfl rfl (by (try simp only [List.map_toArray, List.map_cons, List.map_nil]); first | done | rfl | (simp only [List.length_drop, List.length_take]; rfl)) ?_
     with_reducible refine (version_Add.calls k _ _ t164 t167 t168 t169 t172 t173 t174 t175 t176 t177 t180 t181 t182 t183 _ ?side1 ?side2 A3.out).mono ?_
     (case side1 => repeat (first | exact (Kd.S_reads' HO166.out).2.2 | (with_reducible refine Kd.C_alloc ?_ _) | (with_reducible refine Kd.C_drewN ?_ _) | (with_reducible refine Kd.C_drew ?_)))
     (case side2 => exact (Kd.S_reads' HO166.out).2.1)
     rintro e w50 ⟨v178, rfl, ho0, hb⟩
     refine ⟨_, rfl, ?_⟩
     obtain ⟨HO166, HO179, BK163, BK171, HB⟩ := And.intro (Aside0.mk (Kd.S_below rS_ hb)) (And.intro (Aside0.mk (Kd.V_lower (Kd.V_mono (ok' := fun k_ => (w.heap.size ≤ k_) ∧ some k_ ≠ (.slice Ao44 t164.length co44 : Value).ownBlock ∧ k_ ≠ gb163 ∧ k_ ≠ gb171) ho0 (fun k_ hk_ => ⟨(Nat.le_trans (below_size hq_) hk_), (Kd.fresh' (Kd.S_lt rS_) k_ hk_), (Kd.freshB (g := gb163) (o := .cells #[.slice none 0 0, .int .i64 0, .int .i64 0, .string (⟨#[]⟩ : ByteArray)] 24 (0, 0)) bq_ k_ hk_), (Kd.freshB (g := gb171) (o := .cells #[.slice Ao44 t164.length co44, .int .i64 t167, .int .i64 t168, .string t169] 24 (0, 0)) bq_ k_ hk_)⟩)) (below_size hq_))) (And.intro (Aside0.mk (blk_below (g := gb163) (o := .cells #[.slice none 0 0, .int .i64 0, .int .i64 0, .string (⟨#[]⟩ : ByteArray)] 24 (0, 0)) bq_ hb)) (And.intro (Aside0.mk (blk_below (g := gb171) (o := .cells #[.slice Ao44 t164.length co44, .int .i64 t167, .int .i64 t168, .string t169] 24 (0, 0)) bq_ hb)) (Aside0.mk (below_step hq_ hb)))))
     (try clear hb)
     (try clear hb2)
     (try clear hk)
     (try clear hi)
     (try clear ho0)
     obtain ⟨Ao51, co51, eo51⟩ := Kd.V_slice HO179.out
     (first | subst eo51 | (injection eo51 with f1_ f2_ f3_; have f4_ := f1_.symm; have f5_ := f3_.symm; clear f1_ f2_ f3_; subst f4_; subst f5_))
     refine hK.out _ _ ⟨(blk_cell BK171.out 0).trans rfl, (blk_cell BK171.out 1).trans rfl, (blk_cell BK171.out 2).trans rfl, (blk_cell BK171.out 3).trans rfl⟩ (fun hHeld => ?_)
     clear hK K
     refine norm_ (a' := ?_) ?_ ?_
     rotate_left
     ·
      show Act.put _ (some 13) _ = _
      simp only [Act.put, sa_, s0_, s1_, i64_w, i32_w]
      rfl
     refine pA_ 3 10 ?_ (b_ 8 15) (any_of HT_.out (by kernel_rfl)) rfl rfl (fun _ _ _ h => h) (by rfl) ?_ ?_ ?_ ?_; rotate_left
     · intro w'; go_simp; with_reducible rfl
     rotate_left
     · simp only [Act.put, sa_, s0_, s1_, i64_w, i32_w]; rfl
     refine pA_ 4 14 ?_ (b_ 8 31) (any_of HT_.out (by kernel_rfl)) rfl rfl (fun _ _ _ h => h) (by rfl) ?_ ?_ ?_ ?_; rotate_left
     · intro w'; go_simp; with_reducible rfl
     rotate_left
     · simp only [Act.put, sa_, s0_, s1_, i64_w, i32_w]; rfl
     refine pA_ 5 15 ?_ (b_ 8 63) (any_of HT_.out (by kernel_rfl)) rfl rfl (fun _ _ _ h => h) (by rfl) ?_ ?_ ?_ ?_; rotate_left
     · intro w'; go_simp; with_reducible rfl
     rotate_left
     · simp only [Act.put, sa_, s0_, s1_, i64_w, i32_w]; rfl
     refine last_ (i := 6) (N := none) (b_ 8 127) rfl rfl (one_of HT_.out (by kernel_rfl)) (by decide) (fun K hK => ?_)
     have hs52 : w50.cell? ⟨gb171, 0, none⟩ = some (.slice Ao44 t164.length co44) := (blk_cell BK171.out 0).trans rfl
     have hfs52 := blk_frozen BK171.out 0
     have hns52_0 := NB163_171.out
     have hms52_0 := NB171_163.out
     have hs53 : w50.cell? ⟨gb171, 1, none⟩ = some (.int .i64 t167) := (blk_cell BK171.out 1).trans rfl
     have hfs53 := blk_frozen BK171.out 1
     have hns53_0 := NB163_171.out
     have hms53_0 := NB171_163.out
     have hs54 : w50.cell? ⟨gb171, 2, none⟩ = some (.int .i64 t168) := (blk_cell BK171.out 2).trans rfl
     have hfs54 := blk_frozen BK171.out 2
     have hns54_0 := NB163_171.out
     have hms54_0 := NB171_163.out
     have hs55 : w50.cell? ⟨gb171, 3, none⟩ = some (.string t169) := (blk_cell BK171.out 3).trans rfl
     have hfs55 := blk_frozen BK171.out 3
     have hns55_0 := NB163_171.out
     have hms55_0 := NB171_163.out
     refine skip_ (w1 := ?_) (by rfl) rfl ?_ ?_; rotate_left
     · go_simp; rfl
     refine hK.out _ _ ?_
     clear hK K
     refine pA_ 7 4 ?_ (b_ 8 255) (any_of HT_.out (by kernel_rfl)) rfl rfl (fun _ _ _ h => h) (by rfl) ?_ ?_ ?_ ?_; rotate_left
     · intro w'; go_simp; with_reducible rfl
     rotate_left
     · simp only [Act.put, sa_, s0_, s1_, i64_w, i32_w]; rfl
     refine done_ (done_of HT_.out (by kernel_rfl)) ?_
     try go_wp2
     have n0_ : Aside0 (Kd.S (Kd.slice 32 k32) 27 ((((w50.setCell ⟨gb171, 0, none⟩ (.slice Ao51 t177.length co51)).setCell ⟨gb171, 1, none⟩ (.int .i64 t180)).setCell ⟨gb171, 2, none⟩ (.int .i64 t181)).setCell ⟨gb171, 3, none⟩ (.string t182)) w.heap.size (fun k_ => (w.heap.size ≤ k_)) (.slice Ao44 t164.length co44) t164) := ⟨by (with_reducible repeat (first | apply Kd.S_alloc | apply Kd.S_drewN | apply Kd.S_drew)); exact Kd.S_mono (Kd.S_far (p := ⟨gb171, 3, none⟩) (Kd.S_far (p := ⟨gb171, 2, none⟩) (Kd.S_far (p := ⟨gb171, 1, none⟩) (Kd.S_far (p := ⟨gb171, 0, none⟩) (Kd.S_types HO166.out BK171.out (by decide)) (fun _ hk => hk.2) (.slice Ao51 t177.length co51)) (fun _ hk => hk.2) (.int .i64 t180)) (fun _ hk => hk.2) (.int .i64 t181)) (fun _ hk => hk.2) (.string t182)) (fun _ hk => hk.1)⟩
     have n1_ : Aside0 (Kd.V (Kd.slice 32 k32) 27 ((((w50.setCell ⟨gb171, 0, none⟩ (.slice Ao51 t177.length co51)).setCell ⟨gb171, 1, none⟩ (.int .i64 t180)).setCell ⟨gb171, 2, none⟩ (.int .i64 t181)).setCell ⟨gb171, 3, none⟩ (.string t182)) w.heap.size (fun k_ => (w.heap.size ≤ k_) ∧ some k_ ≠ (.slice Ao44 t164.length co44 : Value).ownBlock ∧ k_ ≠ gb163 ∧ k_ ≠ gb171) (.slice Ao51 t177.length co51) t177) := ⟨by (with_reducible repeat (first | apply Kd.V_alloc | apply Kd.V_drewN | apply Kd.V_drew)); exact Kd.V_mono (Kd.V_far (p := ⟨gb171, 3, none⟩) (Kd.V_far (p := ⟨gb171, 2, none⟩) (Kd.V_far (p := ⟨gb171, 1, none⟩) (Kd.V_far (p := ⟨gb171, 0, none⟩) (Kd.V_mono HO179.out (fun k_ hk => (⟨hk, hk.2.2.2⟩ : _ ∧ k_ ≠ gb171))) (fun _ hk => hk.2) (.slice Ao51 t177.length co51)) (fun _ hk => hk.2) (.int .i64 t180)) (fun _ hk => hk.2) (.int .i64 t181)) (fun _ hk => hk.2) (.string t182)) (fun _ hk => ⟨hk.1.1, ⟨hk.1.2.1, ⟨hk.1.2.2.1, hk.1.2.2.2⟩⟩⟩)⟩
     have n2_ : Aside0 (((((w50.setCell ⟨gb171, 0, none⟩ (.slice Ao51 t177.length co51)).setCell ⟨gb171, 1, none⟩ (.int .i64 t180)).setCell ⟨gb171, 2, none⟩ (.int .i64 t181)).setCell ⟨gb171, 3, none⟩ (.string t182)).heap[gb163]? = some (.cells #[.slice none 0 0, .int .i64 0, .int .i64 0, .string (⟨#[]⟩ : ByteArray)] 24 (0, 0))) := ⟨bf_⟩
     have n3_ : Aside0 (((((w50.setCell ⟨gb171, 0, none⟩ (.slice Ao51 t177.length co51)).setCell ⟨gb171, 1, none⟩ (.int .i64 t180)).setCell ⟨gb171, 2, none⟩ (.int .i64 t181)).setCell ⟨gb171, 3, none⟩ (.string t182)).heap[gb171]? = some (.cells #[.slice Ao51 t177.length co51, .int .i64 t180, .int .i64 t181, .string t182] 24 (0, 0))) := ⟨by (with_reducible repeat (first | refine blk_drewN ?_ _ | refine blk_drew ?_ | refine blk_alloc ?_ _)); refine blk_put (cs := #[.slice Ao51 t177.length co51, .int .i64 t180, .int .i64 t181, .string t169]) ?_ 3 _ rfl; (with_reducible repeat (first | refine blk_drewN ?_ _ | refine blk_drew ?_ | refine blk_alloc ?_ _)); refine blk_put (cs := #[.slice Ao51 t177.length co51, .int .i64 t180, .int .i64 t168, .string t169]) ?_ 2 _ rfl; (with_reducible repeat (first | refine blk_drewN ?_ _ | refine blk_drew ?_ | refine blk_alloc ?_ _)); refine blk_put (cs := #[.slice Ao51 t177.length co51, .int .i64 t167, .int .i64 t168, .string t169]) ?_ 1 _ rfl; (with_reducible repeat (first | refine blk_drewN ?_ _ | refine blk_drew ?_ | refine blk_alloc ?_ _)); refine blk_put (cs := #[.slice Ao44 t164.length co44, .int .i64 t167, .int .i64 t168, .string t169]) ?_ 0 _ rfl; (with_reducible repeat (first | refine blk_drewN ?_ _ | refine blk_drew ?_ | refine blk_alloc ?_ _)); exact BK171.out⟩
     have n4_ : Aside0 (Below w.heap.size w ((((w50.setCell ⟨gb171, 0, none⟩ (.slice Ao51 t177.length co51)).setCell ⟨gb171, 1, none⟩ (.int .i64 t180)).setCell ⟨gb171, 2, none⟩ (.int .i64 t181)).setCell ⟨gb171, 3, none⟩ (.string t182))) := ⟨hq_⟩
     (try clear HO166)
     (try clear HO179)
     (try clear BK163)
     (try clear BK171)
     (try clear HB)
     generalize ((((w50.setCell ⟨gb171, 0, none⟩ (.slice Ao51 t177.length co51)).setCell ⟨gb171, 1, none⟩ (.int .i64 t180)).setCell ⟨gb171, 2, none⟩ (.int .i64 t181)).setCell ⟨gb171, 3, none⟩ (.string t182)) = w56 at n0_ n1_ n2_ n3_ n4_ ⊢
     have HO166 := n0_
     have HO179 := n1_
     have BK163 := n2_
     have BK171 := n3_
     have HB := n4_
     clear n0_ n1_ n2_ n3_ n4_
     obtain ⟨HO166, HO179, BK163, BK171, HB⟩ := And.intro (Aside0.mk (Kd.S_drew HO166.out)) (And.intro (Aside0.mk (Kd.V_drew HO179.out)) (And.intro (Aside0.mk (blk_drew BK163.out)) (And.intro (Aside0.mk (blk_drew BK171.out)) (Aside0.mk (below_drew1 HB.out)))))
     refine start_ (n := 8) (S := fun w' => w'.cell? ⟨gb171, 0, none⟩ = some (.slice Ao51 t177.length co51) ∧ w'.cell? ⟨gb171, 1, none⟩ = some (.int .i64 t180) ∧ w'.cell? ⟨gb171, 2, none⟩ = some (.int .i64 t181) ∧ w'.cell? ⟨gb171, 3, none⟩ = some (.string t182)) (ds := [6]) (b_ 8 0) (by kernel_rfl) rfl rfl ⟨(blk_cell BK171.out 0).trans rfl, (blk_cell BK171.out 1).trans rfl, (blk_cell BK171.out 2).trans rfl, (blk_cell BK171.out 3).trans rfl⟩ (fun hHeld => ?_); refine with_tabW millhandlaw16_two.tab3 millhandlaw16_two.bits3 (fun HT_ HW_ => ?_)
     generalize w56.drew = w57 at HO166 HO179 BK163 BK171 HB hHeld ⊢
     refine tA_ 0 17 ?_ (b_ 8 1) (take_ofW HT_.out HW_.out (by kernel_rfl)) rfl rfl (fun _ _ _ h => h) (by rfl) ?_ hHeld ?_ ?_ ?_; rotate_left
     · rintro w' ⟨s0, s1, s2, s3⟩; go_simp; with_reducible rfl
     rotate_left
     · simp only [Act.put, sa_, s0_, s1_, i64_w, i32_w]; rfl
     refine one_ (i := 1) (N := some 18) (b_ 8 3) rfl rfl (one_of HT_.out (by kernel_rfl)) (by decide) (fun K hK => ?_)
     refine goes_ Try.func32 (by kernel_rfl) rfl #[.string (⟨#[98]⟩ : ByteArray), .string (⟨#[99]⟩ : ByteArray), .string (⟨#[102]⟩ : ByteArray)] (by rfl) rfl rfl (by (try simp only [List.map_toArray, List.map_cons, List.map_nil]); first | done | rfl | (simp only [List.length_drop, List.length_take]; rfl)) ?_
     with_reducible refine (millhandlaw16_table.calls (⟨#[98]⟩ : ByteArray) (⟨#[99]⟩ : ByteArray) (⟨#[102]⟩ : ByteArray) t184 t185 t186 t187 t188 _ A4.out).mono ?_
     rintro e w58 ⟨rfl, hb⟩
     refine ⟨_, rfl, ?_⟩
     obtain ⟨HO166, HO179, BK163, BK171, HB⟩ := And.intro (Aside0.mk (Kd.S_below rS_ hb)) (And.intro (Aside0.mk (Kd.V_below rV_ hb)) (And.intro (Aside0.mk (blk_below (g := gb163) (o := .cells #[.slice none 0 0, .int .i64 0, .int .i64 0, .string (⟨#[]⟩ : ByteArray)] 24 (0, 0)) bq_ hb)) (And.intro (Aside0.mk (blk_below (g := gb171) (o := .cells #[.slice Ao51 t177.length co51, .int .i64 t180, .int .i64 t181, .string t182] 24 (0, 0)) bq_ hb)) (Aside0.mk (below_step hq_ hb)))))
     (try clear hb)
     (try clear hb2)
     (try clear hk)
     (try clear hi)
     refine hK.out _ _ ⟨(blk_cell BK171.out 0).trans rfl, (blk_cell BK171.out 1).trans rfl, (blk_cell BK171.out 2).trans rfl, (blk_cell BK171.out 3).trans rfl⟩ (fun hHeld => ?_)
     clear hK K
     refine norm_ (a' := ?_) ?_ ?_
     rotate_left
     ·
      show Act.put _ (some 18) _ = _
      simp only [Act.put, sa_, s0_, s1_, i64_w, i32_w]
      rfl
     refine one_ (i := 2) (N := some 19) (b_ 8 7) rfl rfl (one_of HT_.out (by kernel_rfl)) (by decide) (fun K hK => ?_)
     refine goes_ Try.func15 (by kernel_rfl) rfl #[.agg #[.slice Ao51 t177.length co51, .int .i64 t180, .int .i64 t181, .string t182], .agg #[.string t184, .int .i64 t185, .int .i64 t186, .string t187, .string t188]] (by rfl) rfl rfl (by (try simp only [List.map_toArray, List.map_cons, List.map_nil]); first | done | rfl | (simp only [List.length_drop, List.length_take]; rfl)) ?_
     with_reducible refine (version_Add.calls k _ _ t177 t180 t181 t182 t184 t185 t186 t187 t188 t189 t192 t193 t194 t195 _ ?side1 ?side2 A5.out).mono ?_
     (case side1 => repeat (first | exact (Kd.V_reads' HO179.out).2.2 | (with_reducible refine Kd.C_alloc ?_ _) | (with_reducible refine Kd.C_drewN ?_ _) | (with_reducible refine Kd.C_drew ?_)))
     (case side2 => exact (Kd.V_reads' HO179.out).2.1)
     rintro e w59 ⟨v190, rfl, ho0, hb⟩
     refine ⟨_, rfl, ?_⟩
     obtain ⟨HO166, HO179, HO191, BK163, BK171, HB⟩ := And.intro (Aside0.mk (Kd.S_below rS_ hb)) (And.intro (Aside0.mk (Kd.V_below rV_ hb)) (And.intro (Aside0.mk (Kd.V_lower (Kd.V_mono (ok' := fun k_ => (w.heap.size ≤ k_) ∧ some k_ ≠ (.slice Ao44 t164.length co44 : Value).ownBlock ∧ k_ ≠ gb163 ∧ k_ ≠ gb171) ho0 (fun k_ hk_ => ⟨(Nat.le_trans (below_size hq_) hk_), (Kd.fresh' (Kd.S_lt rS_) k_ hk_), (Kd.freshB (g := gb163) (o := .cells #[.slice none 0 0, .int .i64 0, .int .i64 0, .string (⟨#[]⟩ : ByteArray)] 24 (0, 0)) bq_ k_ hk_), (Kd.freshB (g := gb171) (o := .cells #[.slice Ao51 t177.length co51, .int .i64 t180, .int .i64 t181, .string t182] 24 (0, 0)) bq_ k_ hk_)⟩)) (below_size hq_))) (And.intro (Aside0.mk (blk_below (g := gb163) (o := .cells #[.slice none 0 0, .int .i64 0, .int .i64 0, .string (⟨#[]⟩ : ByteArray)] 24 (0, 0)) bq_ hb)) (And.intro (Aside0.mk (blk_below (g := gb171) (o := .cells #[.slice Ao51 t177.length co51, .int .i64 t180, .int .i64 t181, .string t182] 24 (0, 0)) bq_ hb)) (Aside0.mk (below_step hq_ hb))))))
     (try clear hb)
     (try clear hb2)
     (try clear hk)
     (try clear hi)
     (try clear ho0)
     obtain ⟨Ao60, co60, eo60⟩ := Kd.V_slice HO191.out
     (first | subst eo60 | (injection eo60 with f1_ f2_ f3_; have f4_ := f1_.symm; have f5_ := f3_.symm; clear f1_ f2_ f3_; subst f4_; subst f5_))
     refine hK.out _ _ ⟨(blk_cell BK171.out 0).trans rfl, (blk_cell BK171.out 1).trans rfl, (blk_cell BK171.out 2).trans rfl, (blk_cell BK171.out 3).trans rfl⟩ (fun hHeld => ?_)
     clear hK K
     refine norm_ (a' := ?_) ?_ ?_
     rotate_left
     ·
      show Act.put _ (some 19) _ = _
      simp only [Act.put, sa_, s0_, s1_, i64_w, i32_w]
      rfl
     refine pA_ 3 16 ?_ (b_ 8 15) (any_of HT_.out (by kernel_rfl)) rfl rfl (fun _ _ _ h => h) (by rfl) ?_ ?_ ?_ ?_; rotate_left
     · intro w'; go_simp; with_reducible rfl
     rotate_left
     · simp only [Act.put, sa_, s0_, s1_, i64_w, i32_w]; rfl
     refine pA_ 4 20 ?_ (b_ 8 31) (any_of HT_.out (by kernel_rfl)) rfl rfl (fun _ _ _ h => h) (by rfl) ?_ ?_ ?_ ?_; rotate_left
     · intro w'; go_simp; with_reducible rfl
     rotate_left
     · simp only [Act.put, sa_, s0_, s1_, i64_w, i32_w]; rfl
     refine pA_ 5 21 ?_ (b_ 8 63) (any_of HT_.out (by kernel_rfl)) rfl rfl (fun _ _ _ h => h) (by rfl) ?_ ?_ ?_ ?_; rotate_left
     · intro w'; go_simp; with_reducible rfl
     rotate_left
     · simp only [Act.put, sa_, s0_, s1_, i64_w, i32_w]; rfl
     refine last_ (i := 6) (N := none) (b_ 8 127) rfl rfl (one_of HT_.out (by kernel_rfl)) (by decide) (fun K hK => ?_)
     have hs61 : w59.cell? ⟨gb171, 0, none⟩ = some (.slice Ao51 t177.length co51) := (blk_cell BK171.out 0).trans rfl
     have hfs61 := blk_frozen BK171.out 0
     have hns61_0 := NB163_171.out
     have hms61_0 := NB171_163.out
     have hs62 : w59.cell? ⟨gb171, 1, none⟩ = some (.int .i64 t180) := (blk_cell BK171.out 1).trans rfl
     have hfs62 := blk_frozen BK171.out 1
     have hns62_0 := NB163_171.out
     have hms62_0 := NB171_163.out
     have hs63 : w59.cell? ⟨gb171, 2, none⟩ = some (.int .i64 t181) := (blk_cell BK171.out 2).trans rfl
     have hfs63 := blk_frozen BK171.out 2
     have hns63_0 := NB163_171.out
     have hms63_0 := NB171_163.out
     have hs64 : w59.cell? ⟨gb171, 3, none⟩ = some (.string t182) := (blk_cell BK171.out 3).trans rfl
     have hfs64 := blk_frozen BK171.out 3
     have hns64_0 := NB163_171.out
     have hms64_0 := NB171_163.out
     refine skip_ (w1 := ?_) (by rfl) rfl ?_ ?_; rotate_left
     · go_simp; rfl
     refine hK.out _ _ ?_
     clear hK K
     refine pA_ 7 5 ?_ (b_ 8 255) (any_of HT_.out (by kernel_rfl)) rfl rfl (fun _ _ _ h => h) (by rfl) ?_ ?_ ?_ ?_; rotate_left
     · intro w'; go_simp; with_reducible rfl
     rotate_left
     · simp only [Act.put, sa_, s0_, s1_, i64_w, i32_w]; rfl
     refine done_ (done_of HT_.out (by kernel_rfl)) ?_
     try go_wp2
     have n0_ : Aside0 (Kd.S (Kd.slice 32 k32) 27 ((((w59.setCell ⟨gb171, 0, none⟩ (.slice Ao60 t189.length co60)).setCell ⟨gb171, 1, none⟩ (.int .i64 t192)).setCell ⟨gb171, 2, none⟩ (.int .i64 t193)).setCell ⟨gb171, 3, none⟩ (.string t194)) w.heap.size (fun k_ => (w.heap.size ≤ k_)) (.slice Ao44 t164.length co44) t164) := ⟨by (with_reducible repeat (first | apply Kd.S_alloc | apply Kd.S_drewN | apply Kd.S_drew)); exact Kd.S_mono (Kd.S_far (p := ⟨gb171, 3, none⟩) (Kd.S_far (p := ⟨gb171, 2, none⟩) (Kd.S_far (p := ⟨gb171, 1, none⟩) (Kd.S_far (p := ⟨gb171, 0, none⟩) (Kd.S_types HO166.out BK171.out (by decide)) (fun _ hk => hk.2) (.slice Ao60 t189.length co60)) (fun _ hk => hk.2) (.int .i64 t192)) (fun _ hk => hk.2) (.int .i64 t193)) (fun _ hk => hk.2) (.string t194)) (fun _ hk => hk.1)⟩
     have n1_ : Aside0 (Kd.V (Kd.slice 32 k32) 27 ((((w59.setCell ⟨gb171, 0, none⟩ (.slice Ao60 t189.length co60)).setCell ⟨gb171, 1, none⟩ (.int .i64 t192)).setCell ⟨gb171, 2, none⟩ (.int .i64 t193)).setCell ⟨gb171, 3, none⟩ (.string t194)) w.heap.size (fun k_ => (w.heap.size ≤ k_) ∧ some k_ ≠ (.slice Ao44 t164.length co44 : Value).ownBlock ∧ k_ ≠ gb163 ∧ k_ ≠ gb171) (.slice Ao51 t177.length co51) t177) := ⟨by (with_reducible repeat (first | apply Kd.V_alloc | apply Kd.V_drewN | apply Kd.V_drew)); exact Kd.V_mono (Kd.V_far (p := ⟨gb171, 3, none⟩) (Kd.V_far (p := ⟨gb171, 2, none⟩) (Kd.V_far (p := ⟨gb171, 1, none⟩) (Kd.V_far (p := ⟨gb171, 0, none⟩) (Kd.V_mono HO179.out (fun k_ hk => (⟨hk, hk.2.2.2⟩ : _ ∧ k_ ≠ gb171))) (fun _ hk => hk.2) (.slice Ao60 t189.length co60)) (fun _ hk => hk.2) (.int .i64 t192)) (fun _ hk => hk.2) (.int .i64 t193)) (fun _ hk => hk.2) (.string t194)) (fun _ hk => ⟨hk.1.1, ⟨hk.1.2.1, ⟨hk.1.2.2.1, hk.1.2.2.2⟩⟩⟩)⟩
     have n2_ : Aside0 (Kd.V (Kd.slice 32 k32) 27 ((((w59.setCell ⟨gb171, 0, none⟩ (.slice Ao60 t189.length co60)).setCell ⟨gb171, 1, none⟩ (.int .i64 t192)).setCell ⟨gb171, 2, none⟩ (.int .i64 t193)).setCell ⟨gb171, 3, none⟩ (.string t194)) w.heap.size (fun k_ => (w.heap.size ≤ k_) ∧ some k_ ≠ (.slice Ao44 t164.length co44 : Value).ownBlock ∧ k_ ≠ gb163 ∧ k_ ≠ gb171) (.slice Ao60 t189.length co60) t189) := ⟨by (with_reducible repeat (first | apply Kd.V_alloc | apply Kd.V_drewN | apply Kd.V_drew)); exact Kd.V_mono (Kd.V_far (p := ⟨gb171, 3, none⟩) (Kd.V_far (p := ⟨gb171, 2, none⟩) (Kd.V_far (p := ⟨gb171, 1, none⟩) (Kd.V_far (p := ⟨gb171, 0, none⟩) (Kd.V_mono HO191.out (fun k_ hk => (⟨hk, hk.2.2.2⟩ : _ ∧ k_ ≠ gb171))) (fun _ hk => hk.2) (.slice Ao60 t189.length co60)) (fun _ hk => hk.2) (.int .i64 t192)) (fun _ hk => hk.2) (.int .i64 t193)) (fun _ hk => hk.2) (.string t194)) (fun _ hk => ⟨hk.1.1, ⟨hk.1.2.1, ⟨hk.1.2.2.1, hk.1.2.2.2⟩⟩⟩)⟩
     have n3_ : Aside0 (((((w59.setCell ⟨gb171, 0, none⟩ (.slice Ao60 t189.length co60)).setCell ⟨gb171, 1, none⟩ (.int .i64 t192)).setCell ⟨gb171, 2, none⟩ (.int .i64 t193)).setCell ⟨gb171, 3, none⟩ (.string t194)).heap[gb163]? = some (.cells #[.slice none 0 0, .int .i64 0, .int .i64 0, .string (⟨#[]⟩ : ByteArray)] 24 (0, 0))) := ⟨bf_⟩
     have n4_ : Aside0 (((((w59.setCell ⟨gb171, 0, none⟩ (.slice Ao60 t189.length co60)).setCell ⟨gb171, 1, none⟩ (.int .i64 t192)).setCell ⟨gb171, 2, none⟩ (.int .i64 t193)).setCell ⟨gb171, 3, none⟩ (.string t194)).heap[gb171]? = some (.cells #[.slice Ao60 t189.length co60, .int .i64 t192, .int .i64 t193, .string t194] 24 (0, 0))) := ⟨by (with_reducible repeat (first | refine blk_drewN ?_ _ | refine blk_drew ?_ | refine blk_alloc ?_ _)); refine blk_put (cs := #[.slice Ao60 t189.length co60, .int .i64 t192, .int .i64 t193, .string t182]) ?_ 3 _ rfl; (with_reducible repeat (first | refine blk_drewN ?_ _ | refine blk_drew ?_ | refine blk_alloc ?_ _)); refine blk_put (cs := #[.slice Ao60 t189.length co60, .int .i64 t192, .int .i64 t181, .string t182]) ?_ 2 _ rfl; (with_reducible repeat (first | refine blk_drewN ?_ _ | refine blk_drew ?_ | refine blk_alloc ?_ _)); refine blk_put (cs := #[.slice Ao60 t189.length co60, .int .i64 t180, .int .i64 t181, .string t182]) ?_ 1 _ rfl; (with_reducible repeat (first | refine blk_drewN ?_ _ | refine blk_drew ?_ | refine blk_alloc ?_ _)); refine blk_put (cs := #[.slice Ao51 t177.length co51, .int .i64 t180, .int .i64 t181, .string t182]) ?_ 0 _ rfl; (with_reducible repeat (first | refine blk_drewN ?_ _ | refine blk_drew ?_ | refine blk_alloc ?_ _)); exact BK171.out⟩
     have n5_ : Aside0 (Below w.heap.size w ((((w59.setCell ⟨gb171, 0, none⟩ (.slice Ao60 t189.length co60)).setCell ⟨gb171, 1, none⟩ (.int .i64 t192)).setCell ⟨gb171, 2, none⟩ (.int .i64 t193)).setCell ⟨gb171, 3, none⟩ (.string t194))) := ⟨hq_⟩
     (try clear HO166)
     (try clear HO179)
     (try clear HO191)
     (try clear BK163)
     (try clear BK171)
     (try clear HB)
     generalize ((((w59.setCell ⟨gb171, 0, none⟩ (.slice Ao60 t189.length co60)).setCell ⟨gb171, 1, none⟩ (.int .i64 t192)).setCell ⟨gb171, 2, none⟩ (.int .i64 t193)).setCell ⟨gb171, 3, none⟩ (.string t194)) = w65 at n0_ n1_ n2_ n3_ n4_ n5_ ⊢
     have HO166 := n0_
     have HO179 := n1_
     have HO191 := n2_
     have BK163 := n3_
     have BK171 := n4_
     have HB := n5_
     clear n0_ n1_ n2_ n3_ n4_ n5_
     obtain ⟨HO166, HO179, HO191, BK163, BK171, HB⟩ := And.intro (Aside0.mk (Kd.S_drew HO166.out)) (And.intro (Aside0.mk (Kd.V_drew HO179.out)) (And.intro (Aside0.mk (Kd.V_drew HO191.out)) (And.intro (Aside0.mk (blk_drew BK163.out)) (And.intro (Aside0.mk (blk_drew BK171.out)) (Aside0.mk (below_drew1 HB.out))))))
     refine start_ (n := 27) (S := fun w' => w'.cell? ⟨gb171, 0, none⟩ = some (.slice Ao60 t189.length co60) ∧ w'.cell? ⟨gb171, 1, none⟩ = some (.int .i64 t192) ∧ w'.cell? ⟨gb171, 2, none⟩ = some (.int .i64 t193) ∧ w'.cell? ⟨gb171, 3, none⟩ = some (.string t194)) (ds := []) (b_ 27 0) (by kernel_rfl) rfl rfl ⟨(blk_cell BK171.out 0).trans rfl, (blk_cell BK171.out 1).trans rfl, (blk_cell BK171.out 2).trans rfl, (blk_cell BK171.out 3).trans rfl⟩ (fun hHeld => ?_); refine with_tabW millhandlaw16_two.tab4 millhandlaw16_two.bits4 (fun HT_ HW_ => ?_)
     generalize w65.drew = w66 at HO166 HO179 HO191 BK163 BK171 HB hHeld ⊢
     refine pA_ 1 23 ?_ (b_ 27 2) (any_of HT_.out (by kernel_rfl)) rfl rfl (fun _ _ _ h => h) (by rfl) ?_ ?_ ?_ ?_; rotate_left
     · intro w'; go_simp; with_reducible rfl
     rotate_left
     · simp only [Act.put, sa_, s0_, s1_, i64_w, i32_w]; rfl
     refine pA_ 2 24 ?_ (b_ 27 6) (any_of HT_.out (by kernel_rfl)) rfl rfl (fun _ _ _ h => h) (by rfl) ?_ ?_ ?_ ?_; rotate_left
     · intro w'; go_simp; with_reducible rfl
     rotate_left
     · simp only [Act.put, sa_, s0_, s1_, i64_w, i32_w]; rfl
     refine pA_ 3 25 ?_ (b_ 27 14) (any_of HT_.out (by kernel_rfl)) rfl rfl (fun _ _ _ h => h) (by rfl) ?_ ?_ ?_ ?_; rotate_left
     · intro w'; go_simp; with_reducible rfl
     rotate_left
     · simp only [Act.put, sa_, s0_, s1_, i64_w, i32_w]; rfl
     refine pA_ 4 26 ?_ (b_ 27 30) (any_of HT_.out (by kernel_rfl)) rfl rfl (fun _ _ _ h => h) (by rfl) ?_ ?_ ?_ ?_; rotate_left
     · intro w'; go_simp; with_reducible rfl
     rotate_left
     · simp only [Act.put, sa_, s0_, s1_, i64_w, i32_w]; rfl
     refine pA_ 5 27 ?_ (b_ 27 62) (any_of HT_.out (by kernel_rfl)) rfl rfl (fun _ _ _ h => h) (by rfl) ?_ ?_ ?_ ?_; rotate_left
     · intro w'; go_simp; with_reducible rfl
     rotate_left
     · simp only [Act.put, sa_, s0_, s1_, i64_w, i32_w]; rfl
     refine pA_ 6 28 ?_ (b_ 27 126) (any_of HT_.out (by kernel_rfl)) rfl rfl (fun _ _ _ h => h) (by rfl) ?_ ?_ ?_ ?_; rotate_left
     · intro w'; go_simp; with_reducible rfl
     rotate_left
     · simp only [Act.put, sa_, s0_, s1_, i64_w, i32_w]; rfl
     refine pA_ 7 29 ?_ (b_ 27 254) (any_of HT_.out (by kernel_rfl)) rfl rfl (fun _ _ _ h => h) (by rfl) ?_ ?_ ?_ ?_; rotate_left
     · intro w'; go_simp; with_reducible rfl
     rotate_left
     · simp only [Act.put, sa_, s0_, s1_, i64_w, i32_w]; rfl
     refine pA_ 8 30 ?_ (b_ 27 510) (any_of HT_.out (by kernel_rfl)) rfl rfl (fun _ _ _ h => h) (by rfl) ?_ ?_ ?_ ?_; rotate_left
     · intro w'; go_simp; with_reducible rfl
     rotate_left
     · simp only [Act.put, sa_, s0_, s1_, i64_w, i32_w]; rfl
     refine pA_ 9 31 ?_ (b_ 27 1022) (any_of HT_.out (by kernel_rfl)) rfl rfl (fun _ _ _ h => h) (by rfl) ?_ ?_ ?_ ?_; rotate_left
     · intro w'; go_simp; with_reducible rfl
     rotate_left
     · simp only [Act.put, sa_, s0_, s1_, i64_w, i32_w]; rfl
     refine pA_ 10 32 ?_ (b_ 27 2046) (any_of HT_.out (by kernel_rfl)) rfl rfl (fun _ _ _ h => h) (by rfl) ?_ ?_ ?_ ?_; rotate_left
     · intro w'; go_simp; with_reducible rfl
     rotate_left
     · simp only [Act.put, sa_, s0_, s1_, i64_w, i32_w]; rfl
     refine pA_ 11 33 ?_ (b_ 27 4094) (any_of HT_.out (by kernel_rfl)) rfl rfl (fun _ _ _ h => h) (by rfl) ?_ ?_ ?_ ?_; rotate_left
     · intro w'; go_simp; with_reducible rfl
     rotate_left
     · simp only [Act.put, sa_, s0_, s1_, i64_w, i32_w]; rfl
     refine pA_ 12 34 ?_ (b_ 27 8190) (any_of HT_.out (by kernel_rfl)) rfl rfl (fun _ _ _ h => h) (by rfl) ?_ ?_ ?_ ?_; rotate_left
     · intro w'; go_simp; with_reducible rfl
     rotate_left
     · simp only [Act.put, sa_, s0_, s1_, i64_w, i32_w]; rfl
     refine tA_ 0 22 ?_ (b_ 27 8191) (take_ofW HT_.out HW_.out (by kernel_rfl)) rfl rfl (fun _ _ _ h => h) (by rfl) ?_ hHeld ?_ ?_ ?_; rotate_left
     · rintro w' ⟨s0, s1, s2, s3⟩; go_simp; with_reducible rfl
     rotate_left
     · simp only [Act.put, sa_, s0_, s1_, i64_w, i32_w]; rfl
     refine tA_ 13 35 ?_ (b_ 27 16383) (take_ofW HT_.out HW_.out (by kernel_rfl)) rfl rfl (fun _ _ _ h => h) (by rfl) ?_ hHeld ?_ ?_ ?_; rotate_left
     · rintro w' ⟨s0, s1, s2, s3⟩; go_simp; with_reducible rfl
     rotate_left
     · simp only [Act.put, sa_, s0_, s1_, i64_w, i32_w]; rfl
     refine pA_ 14 36 ?_ (b_ 27 32767) (any_of HT_.out (by kernel_rfl)) rfl rfl (fun _ _ _ h => h) (by rfl) ?_ ?_ ?_ ?_; rotate_left
     · intro w'; go_simp; with_reducible rfl
     rotate_left
     · simp only [Act.put, sa_, s0_, s1_, i64_w, i32_w]; rfl
     refine pA_ 15 37 ?_ (b_ 27 65535) (any_of HT_.out (by kernel_rfl)) rfl rfl (fun _ _ _ h => h) (by rfl) ?_ ?_ ?_ ?_; rotate_left
     · intro w'; go_simp; with_reducible rfl
     rotate_left
     · simp only [Act.put, sa_, s0_, s1_, i64_w, i32_w]; rfl
     refine pA_ 16 38 ?_ (b_ 27 131071) (any_of HT_.out (by kernel_rfl)) rfl rfl (fun _ _ _ h => h) (by rfl) ?_ ?_ ?_ ?_; rotate_left
     · intro w'; go_simp; with_reducible rfl
     rotate_left
     · simp only [Act.put, sa_, s0_, s1_, i64_w, i32_w]; rfl
     refine pA_ 17 39 ?_ (b_ 27 262143) (any_of HT_.out (by kernel_rfl)) rfl rfl (fun _ _ _ h => h) (by rfl) ?_ ?_ ?_ ?_; rotate_left
     · intro w'; go_simp; with_reducible rfl
     rotate_left
     · simp only [Act.put, sa_, s0_, s1_, i64_w, i32_w]; rfl
     refine pB_ 18 40 ?_ (b_ 27 524287) (any_of HT_.out (by kernel_rfl)) rfl rfl (fun _ _ _ h => h) (by rfl) ?_ ?_; rotate_left
     · simp only [Act.put, sa_, s0_, s1_, i64_w, i32_w]; rfl
     refine pB_ 19 41 ?_ (b_ 27 1048575) (any_of HT_.out (by kernel_rfl)) rfl rfl (fun _ _ _ h => h) (by rfl) ?_ ?_; rotate_left
     · simp only [Act.put, sa_, s0_, s1_, i64_w, i32_w]; rfl
     refine pB_ 20 42 ?_ (b_ 27 2097151) (any_of HT_.out (by kernel_rfl)) rfl rfl (fun _ _ _ h => h) (by rfl) ?_ ?_; rotate_left
     · simp only [Act.put, sa_, s0_, s1_, i64_w, i32_w]; rfl
     refine pB_ 21 43 ?_ (b_ 27 4194303) (any_of HT_.out (by kernel_rfl)) rfl rfl (fun _ _ _ h => h) (by rfl) ?_ ?_; rotate_left
     · simp only [Act.put, sa_, s0_, s1_, i64_w, i32_w]; rfl
     refine pB_ 22 44 ?_ (b_ 27 8388607) (any_of HT_.out (by kernel_rfl)) rfl rfl (fun _ _ _ h => h) (by rfl) ?_ ?_; rotate_left
     · simp only [Act.put, sa_, s0_, s1_, i64_w, i32_w]; rfl
     refine pB_ 23 45 ?_ (b_ 27 16777215) (any_of HT_.out (by kernel_rfl)) rfl rfl (fun _ _ _ h => h) (by rfl) ?_ ?_; rotate_left
     · simp only [Act.put, sa_, s0_, s1_, i64_w, i32_w]; rfl
     refine pA_ 24 46 ?_ (b_ 27 33554431) (any_of HT_.out (by kernel_rfl)) rfl rfl (fun _ _ _ h => h) (by rfl) ?_ ?_ ?_ ?_; rotate_left
     · intro w'; go_simp; with_reducible rfl
     rotate_left
     · simp only [Act.put, sa_, s0_, s1_, i64_w, i32_w]; rfl
     refine one_ (i := 25) (N := none) (b_ 27 67108863) rfl rfl (one_of HT_.out (by kernel_rfl)) (by decide) (fun K hK => ?_)
     have hs67 : w66.cell? ⟨gb163, 0, none⟩ = some (.slice none 0 0) := (blk_cell BK163.out 0).trans rfl
     have hfs67 := blk_frozen BK163.out 0
     have hns67_1 := NB171_163.out
     have hms67_1 := NB163_171.out
     have hs68 : w66.cell? ⟨gb163, 1, none⟩ = some (.int .i64 0) := (blk_cell BK163.out 1).trans rfl
     have hfs68 := blk_frozen BK163.out 1
     have hns68_1 := NB171_163.out
     have hms68_1 := NB163_171.out
     have hs69 : w66.cell? ⟨gb163, 2, none⟩ = some (.int .i64 0) := (blk_cell BK163.out 2).trans rfl
     have hfs69 := blk_frozen BK163.out 2
     have hns69_1 := NB171_163.out
     have hms69_1 := NB163_171.out
     have hs70 : w66.cell? ⟨gb163, 3, none⟩ = some (.string (⟨#[]⟩ : ByteArray)) := (blk_cell BK163.out 3).trans rfl
     have hfs70 := blk_frozen BK163.out 3
     have hns70_1 := NB171_163.out
     have hms70_1 := NB163_171.out
     refine skip_ (w1 := ?_) (by rfl) rfl ?_ ?_; rotate_left
     · go_simp; rfl
     refine hK.out _ _ ⟨((cell_far (p := ⟨gb163, _, none⟩) NB171_163.out _).trans (((cell_far (p := ⟨gb163, _, none⟩) NB171_163.out _).trans (((cell_far (p := ⟨gb163, _, none⟩) NB171_163.out _).trans (((cell_far (p := ⟨gb163, _, none⟩) NB171_163.out _).trans (hHeld.1)))))))), ((cell_far (p := ⟨gb163, _, none⟩) NB171_163.out _).trans (((cell_far (p := ⟨gb163, _, none⟩) NB171_163.out _).trans (((cell_far (p := ⟨gb163, _, none⟩) NB171_163.out _).trans (((cell_far (p := ⟨gb163, _, none⟩) NB171_163.out _).trans (hHeld.2.1)))))))), ((cell_far (p := ⟨gb163, _, none⟩) NB171_163.out _).trans (((cell_far (p := ⟨gb163, _, none⟩) NB171_163.out _).trans (((cell_far (p := ⟨gb163, _, none⟩) NB171_163.out _).trans (((cell_far (p := ⟨gb163, _, none⟩) NB171_163.out _).trans (hHeld.2.2.1)))))))), ((cell_far (p := ⟨gb163, _, none⟩) NB171_163.out _).trans (((cell_far (p := ⟨gb163, _, none⟩) NB171_163.out _).trans (((cell_far (p := ⟨gb163, _, none⟩) NB171_163.out _).trans (((cell_far (p := ⟨gb163, _, none⟩) NB171_163.out _).trans (hHeld.2.2.2))))))))⟩ (fun hHeld => ?_)
     clear hK K
     refine pA_ 26 1 ?_ (b_ 27 134217727) (any_of HT_.out (by kernel_rfl)) rfl rfl (fun _ _ _ h => h) (by rfl) ?_ ?_ ?_ ?_; rotate_left
     · intro w'; go_simp; with_reducible rfl
     rotate_left
     · simp only [Act.put, sa_, s0_, s1_, i64_w, i32_w]; rfl
     refine done_ (done_of HT_.out (by kernel_rfl)) ?_
     try go_wp2
     refine bodyPost_ret (results_ct rfl _ _ gb163 24 #[.slice Ao60 t189.length co60, .int .i64 t192, .int .i64 t193, .string t194] (0, 0) _ rfl (by (with_reducible repeat (first | refine blk_drewN ?_ _ | refine blk_drew ?_ | refine blk_alloc ?_ _)); refine blk_put (cs := #[.slice Ao60 t189.length co60, .int .i64 t192, .int .i64 t193, .string (⟨#[]⟩ : ByteArray)]) ?_ 3 _ rfl; (with_reducible repeat (first | refine blk_drewN ?_ _ | refine blk_drew ?_ | refine blk_alloc ?_ _)); refine blk_put (cs := #[.slice Ao60 t189.length co60, .int .i64 t192, .int .i64 0, .string (⟨#[]⟩ : ByteArray)]) ?_ 2 _ rfl; (with_reducible repeat (first | refine blk_drewN ?_ _ | refine blk_drew ?_ | refine blk_alloc ?_ _)); refine blk_put (cs := #[.slice Ao60 t189.length co60, .int .i64 0, .int .i64 0, .string (⟨#[]⟩ : ByteArray)]) ?_ 1 _ rfl; (with_reducible repeat (first | refine blk_drewN ?_ _ | refine blk_drew ?_ | refine blk_alloc ?_ _)); refine blk_put (cs := #[.slice none 0 0, .int .i64 0, .int .i64 0, .string (⟨#[]⟩ : ByteArray)]) ?_ 0 _ rfl; (with_reducible repeat (first | refine blk_drewN ?_ _ | refine blk_drew ?_ | refine blk_alloc ?_ _)); exact BK163.out) Try.underlying24 rfl (by kernel_rfl)) rfl ?_
     exact ⟨_, by first | rfl | (simp [errW_none, errW_some] <;> rfl) | (simp [*, errW_none, errW_some] <;> rfl) | exact ret_ie _ | (simp [*, errW_none, errW_some, bne]; done), by (with_reducible repeat (first | apply Kd.V_alloc | apply Kd.V_drewN | apply Kd.V_drew)); exact Kd.V_mono (Kd.V_far (p := ⟨gb163, 3, none⟩) (Kd.V_far (p := ⟨gb163, 2, none⟩) (Kd.V_far (p := ⟨gb163, 1, none⟩) (Kd.V_far (p := ⟨gb163, 0, none⟩) (Kd.V_mono HO191.out (fun k_ hk => (⟨hk, hk.2.2.1⟩ : _ ∧ k_ ≠ gb163))) (fun _ hk => hk.2) (.slice Ao60 t189.length co60)) (fun _ hk => hk.2) (.int .i64 t192)) (fun _ hk => hk.2) (.int .i64 t193)) (fun _ hk => hk.2) (.string t194)) (fun _ hk => hk.1.1), by repeat (first | (with_reducible first | exact HB.out | apply below_alloc | apply pw_below_drewN | apply below_drew1 | refine below_set ?_ GE163.out | refine below_set ?_ GE171.out) | exact HB.out)⟩
   ·
    rw [if_neg c8] at H
    have c8b0 : (t195 == 0) = false := beq_eq_false_iff_ne.mpr c8
    have c8b1 : (t195 != 0) = true := bne_iff_ne.mpr c8
    simp only [Option.some.injEq, Prod.mk.injEq] at H
    obtain ⟨rfl, rfl, rfl, rfl, rfl⟩ := H
    go_enter Try.func31, Try.ntmps31
    try go_wp2_with (first | ((with_reducible refine gate_dst (N := 0) rfl ?_); (try (refine gate_guard (by rfl) ?_; dsimp only)); refine box_event ?hg (N := 0) ?hd (cs := #[.slice none 0 0, .int .i64 0, .int .i64 0, .string (⟨#[]⟩ : ByteArray)]) (t := 24) ?hr ?_; (case hd => rfl); (case hg => rfl); (case hr => first | (go_simp; done) | (go_simp; rfl)); intro gb163 hg w71 hbox hb; have n0_ := Aside0.mk (below_step hq_ hb); have n1_ := Aside0.mk (hbox); have n2_ := Aside0.mk ((by rw [hg]; exact (below_size hq_) : w.heap.size ≤ gb163)); have n3_ := Aside0.mk ((by rw [hg]; exact (below_size hq_) : w.heap.size ≤ gb163)); clear HB; have HB := n0_; have BK163 := n1_; have GW163 := n2_; have GE163 := n3_; clear n0_ n1_ n2_ n3_; clear hb hbox hg) | ((with_reducible refine gate_callee (f := 19) rfl ?_); refine goesL_ (some 7) rfl rfl Try.func19 (by kernel_rfl) rfl #[.string (⟨#[108, 111, 103]⟩ : ByteArray)] rfl (by (try simp only [List.map_toArray, List.map_cons, List.map_nil]); first | done | rfl | (simp only [List.length_drop, List.length_take]; rfl)) ?_; (with_reducible refine (version_New.calls (⟨#[108, 111, 103]⟩ : ByteArray) t164 t167 t168 t169 t170 _ A1.out).mono ?_); rintro e w72 ⟨v165, rfl, ho0, hb⟩; refine ⟨_, rfl, ?_⟩; have n0_ := Aside0.mk (Kd.S_lower (Kd.S_newM (M := fun k_ => (w.heap.size ≤ k_)) ho0 (below_size hq_) (fun k_ h_ => h_)) (below_size hq_)); have n1_ := Aside0.mk (blk_below (g := gb163) (o := .cells #[.slice none 0 0, .int .i64 0, .int .i64 0, .string (⟨#[]⟩ : ByteArray)] 24 (0, 0)) bq_ hb); have n2_ := Aside0.mk (below_step hq_ hb); clear BK163; clear HB; have HO166 := n0_; have BK163 := n1_; have HB := n2_; clear n0_ n1_ n2_; (try clear hb); (try clear hb2); (try clear hk); (try clear hi); (try clear ho0)) | ((with_reducible refine gate_dst (N := 2) rfl ?_); (try (refine gate_guard (by rfl) ?_; dsimp only)); refine box_event ?hg (N := 2) ?hd (cs := #[.slice none 0 0, .int .i64 0, .int .i64 0, .string (⟨#[]⟩ : ByteArray)]) (t := 24) ?hr ?_; (case hd => rfl); (case hg => rfl); (case hr => first | (go_simp; done) | (go_simp; rfl)); intro gb171 hg w73 hbox hb; have n0_ := Aside0.mk (Kd.S_below rS_ hb); have n1_ := Aside0.mk (blk_below (g := gb163) (o := .cells #[.slice none 0 0, .int .i64 0, .int .i64 0, .string (⟨#[]⟩ : ByteArray)] 24 (0, 0)) bq_ hb); have n2_ := Aside0.mk (below_step hq_ hb); have n3_ := Aside0.mk (hbox); have n4_ := Aside0.mk ((by rw [hg]; exact (below_size hq_) : w.heap.size ≤ gb171)); have n5_ := Aside0.mk ((by rw [hg]; exact (below_size hq_) : w.heap.size ≤ gb171)); have n6_ := Aside0.mk ((by rw [hg]; exact Nat.ne_of_lt (blk_lt (g := gb163) (o := .cells #[.slice none 0 0, .int .i64 0, .int .i64 0, .string (⟨#[]⟩ : ByteArray)] 24 (0, 0)) bq_) : gb163 ≠ gb171)); have n7_ := Aside0.mk ((by rw [hg]; exact Nat.ne_of_gt (blk_lt (g := gb163) (o := .cells #[.slice none 0 0, .int .i64 0, .int .i64 0, .string (⟨#[]⟩ : ByteArray)] 24 (0, 0)) bq_) : gb171 ≠ gb163)); clear HO166; clear BK163; clear HB; have HO166 := n0_; have BK163 := n1_; have HB := n2_; have BK171 := n3_; have GW171 := n4_; have GE171 := n5_; have NB163_171 := n6_; have NB171_163 := n7_; clear n0_ n1_ n2_ n3_ n4_ n5_ n6_ n7_; clear hb hbox hg; obtain ⟨Ao74, co74, eo74⟩ := Kd.S_slice HO166.out; subst eo74; have hnb75 := NB171_163.out; have hnc75 := NB163_171.out; have hcz76_0 : w73.cell? ⟨gb171, 0, none⟩ = some (.slice none 0 0) := (blk_cell BK171.out 0).trans rfl; have hcz76_1 : w73.cell? ⟨gb171, 1, none⟩ = some (.int .i64 0) := (blk_cell BK171.out 1).trans rfl; have hcz76_2 : w73.cell? ⟨gb171, 2, none⟩ = some (.int .i64 0) := (blk_cell BK171.out 2).trans rfl; have hcz76_3 : w73.cell? ⟨gb171, 3, none⟩ = some (.string (⟨#[]⟩ : ByteArray)) := (blk_cell BK171.out 3).trans rfl; have hfz76_0 := blk_frozen BK171.out 0; have hfz76_1 := blk_frozen BK171.out 1; have hfz76_2 := blk_frozen BK171.out 2; have hfz76_3 := blk_frozen BK171.out 3))
    have n0_ : Aside0 (Kd.S (Kd.slice 32 k32) 27 ((((w73.setCell ⟨gb171, 0, none⟩ (.slice Ao74 t164.length co74)).setCell ⟨gb171, 1, none⟩ (.int .i64 t167)).setCell ⟨gb171, 2, none⟩ (.int .i64 t168)).setCell ⟨gb171, 3, none⟩ (.string t169)) w.heap.size (fun k_ => (w.heap.size ≤ k_)) (.slice Ao74 t164.length co74) t164) := ⟨by (with_reducible repeat (first | apply Kd.S_alloc | apply Kd.S_drewN | apply Kd.S_drew)); exact Kd.S_mono (Kd.S_far (p := ⟨gb171, 3, none⟩) (Kd.S_far (p := ⟨gb171, 2, none⟩) (Kd.S_far (p := ⟨gb171, 1, none⟩) (Kd.S_far (p := ⟨gb171, 0, none⟩) (Kd.S_types HO166.out BK171.out (by decide)) (fun _ hk => hk.2) (.slice Ao74 t164.length co74)) (fun _ hk => hk.2) (.int .i64 t167)) (fun _ hk => hk.2) (.int .i64 t168)) (fun _ hk => hk.2) (.string t169)) (fun _ hk => hk.1.1)⟩
    have n1_ : Aside0 (((((w73.setCell ⟨gb171, 0, none⟩ (.slice Ao74 t164.length co74)).setCell ⟨gb171, 1, none⟩ (.int .i64 t167)).setCell ⟨gb171, 2, none⟩ (.int .i64 t168)).setCell ⟨gb171, 3, none⟩ (.string t169)).heap[gb163]? = some (.cells #[.slice none 0 0, .int .i64 0, .int .i64 0, .string (⟨#[]⟩ : ByteArray)] 24 (0, 0))) := ⟨bf_⟩
    have n2_ : Aside0 (((((w73.setCell ⟨gb171, 0, none⟩ (.slice Ao74 t164.length co74)).setCell ⟨gb171, 1, none⟩ (.int .i64 t167)).setCell ⟨gb171, 2, none⟩ (.int .i64 t168)).setCell ⟨gb171, 3, none⟩ (.string t169)).heap[gb171]? = some (.cells #[.slice Ao74 t164.length co74, .int .i64 t167, .int .i64 t168, .string t169] 24 (0, 0))) := ⟨by (with_reducible repeat (first | refine blk_drewN ?_ _ | refine blk_drew ?_ | refine blk_alloc ?_ _)); refine blk_put (cs := #[.slice Ao74 t164.length co74, .int .i64 t167, .int .i64 t168, .string (⟨#[]⟩ : ByteArray)]) ?_ 3 _ rfl; (with_reducible repeat (first | refine blk_drewN ?_ _ | refine blk_drew ?_ | refine blk_alloc ?_ _)); refine blk_put (cs := #[.slice Ao74 t164.length co74, .int .i64 t167, .int .i64 0, .string (⟨#[]⟩ : ByteArray)]) ?_ 2 _ rfl; (with_reducible repeat (first | refine blk_drewN ?_ _ | refine blk_drew ?_ | refine blk_alloc ?_ _)); refine blk_put (cs := #[.slice Ao74 t164.length co74, .int .i64 0, .int .i64 0, .string (⟨#[]⟩ : ByteArray)]) ?_ 1 _ rfl; (with_reducible repeat (first | refine blk_drewN ?_ _ | refine blk_drew ?_ | refine blk_alloc ?_ _)); refine blk_put (cs := #[.slice none 0 0, .int .i64 0, .int .i64 0, .string (⟨#[]⟩ : ByteArray)]) ?_ 0 _ rfl; (with_reducible repeat (first | refine blk_drewN ?_ _ | refine blk_drew ?_ | refine blk_alloc ?_ _)); exact BK171.out⟩
    have n3_ : Aside0 (Below w.heap.size w ((((w73.setCell ⟨gb171, 0, none⟩ (.slice Ao74 t164.length co74)).setCell ⟨gb171, 1, none⟩ (.int .i64 t167)).setCell ⟨gb171, 2, none⟩ (.int .i64 t168)).setCell ⟨gb171, 3, none⟩ (.string t169))) := ⟨hq_⟩
    (try clear HO166)
    (try clear BK163)
    (try clear BK171)
    (try clear HB)
    generalize ((((w73.setCell ⟨gb171, 0, none⟩ (.slice Ao74 t164.length co74)).setCell ⟨gb171, 1, none⟩ (.int .i64 t167)).setCell ⟨gb171, 2, none⟩ (.int .i64 t168)).setCell ⟨gb171, 3, none⟩ (.string t169)) = w77 at n0_ n1_ n2_ n3_ ⊢
    have HO166 := n0_
    have BK163 := n1_
    have BK171 := n2_
    have HB := n3_
    clear n0_ n1_ n2_ n3_
    obtain ⟨HO166, BK163, BK171, HB⟩ := And.intro (Aside0.mk (Kd.S_drew HO166.out)) (And.intro (Aside0.mk (blk_drew BK163.out)) (And.intro (Aside0.mk (blk_drew BK171.out)) (Aside0.mk (below_drew1 HB.out))))
    refine start_ (n := 8) (S := fun w' => w'.cell? ⟨gb171, 0, none⟩ = some (.slice Ao74 t164.length co74) ∧ w'.cell? ⟨gb171, 1, none⟩ = some (.int .i64 t167) ∧ w'.cell? ⟨gb171, 2, none⟩ = some (.int .i64 t168) ∧ w'.cell? ⟨gb171, 3, none⟩ = some (.string t169)) (ds := [6]) (b_ 8 0) (by kernel_rfl) rfl rfl ⟨(blk_cell BK171.out 0).trans rfl, (blk_cell BK171.out 1).trans rfl, (blk_cell BK171.out 2).trans rfl, (blk_cell BK171.out 3).trans rfl⟩ (fun hHeld => ?_); refine with_tabW millhandlaw16_two.tab2 millhandlaw16_two.bits2 (fun HT_ HW_ => ?_)
    generalize w77.drew = w78 at HO166 BK163 BK171 HB hHeld ⊢
    refine tA_ 0 11 ?_ (b_ 8 1) (take_ofW HT_.out HW_.out (by kernel_rfl)) rfl rfl (fun _ _ _ h => h) (by rfl) ?_ hHeld ?_ ?_ ?_; rotate_left
    · rintro w' ⟨s0, s1, s2, s3⟩; go_simp; with_reducible rfl
    rotate_left
    · simp only [Act.put, sa_, s0_, s1_, i64_w, i32_w]; rfl
    refine one_ (i := 1) (N := some 12) (b_ 8 3) rfl rfl (one_of HT_.out (by kernel_rfl)) (by decide) (fun K hK => ?_)
    refine goes_ Try.func32 (by kernel_rfl) rfl #[.string (⟨#[97]⟩ : ByteArray), .string (⟨#[98]⟩ : ByteArray), .string (⟨#[100]⟩ : ByteArray)] (by rfl) rfl rfl (by (try simp only [List.map_toArray, List.map_cons, List.map_nil]); first | done | rfl | (simp only [List.length_drop, List.length_take]; rfl)) ?_
    with_reducible refine (millhandlaw16_table.calls (⟨#[97]⟩ : ByteArray) (⟨#[98]⟩ : ByteArray) (⟨#[100]⟩ : ByteArray) t172 t173 t174 t175 t176 _ A2.out).mono ?_
    rintro e w79 ⟨rfl, hb⟩
    refine ⟨_, rfl, ?_⟩
    obtain ⟨HO166, BK163, BK171, HB⟩ := And.intro (Aside0.mk (Kd.S_below rS_ hb)) (And.intro (Aside0.mk (blk_below (g := gb163) (o := .cells #[.slice none 0 0, .int .i64 0, .int .i64 0, .string (⟨#[]⟩ : ByteArray)] 24 (0, 0)) bq_ hb)) (And.intro (Aside0.mk (blk_below (g := gb171) (o := .cells #[.slice Ao74 t164.length co74, .int .i64 t167, .int .i64 t168, .string t169] 24 (0, 0)) bq_ hb)) (Aside0.mk (below_step hq_ hb))))
    (try clear hb)
    (try clear hb2)
    (try clear hk)
    (try clear hi)
    refine hK.out _ _ ⟨(blk_cell BK171.out 0).trans rfl, (blk_cell BK171.out 1).trans rfl, (blk_cell BK171.out 2).trans rfl, (blk_cell BK171.out 3).trans rfl⟩ (fun hHeld => ?_)
    clear hK K
    refine norm_ (a' := ?_) ?_ ?_
    rotate_left
    ·
     show Act.put _ (some 12) _ = _
     simp only [Act.put, sa_, s0_, s1_, i64_w, i32_w]
     rfl
    refine one_ (i := 2) (N := some 13) (b_ 8 7) rfl rfl (one_of HT_.out (by kernel_rfl)) (by decide) (fun K hK => ?_)
    refine goes_ Try.func15 (by kernel_rfl) rfl #[.agg #[.slice Ao74 t164.length co74, .int .i64 t167, .int .i64 t168, .string t169], .agg #[.string t172, .int .i64 t173, .int .i64 t174, .string t175, .string t176]] (by rfl) rfl rfl (by (try simp only [List.map_toArray, List.map_cons, List.map_nil]); first | done | rfl | (simp only [List.length_drop, List.length_take]; rfl)) ?_
    with_reducible refine (version_Add.calls k _ _ t164 t167 t168 t169 t172 t173 t174 t175 t176 t177 t180 t181 t182 t183 _ ?side1 ?side2 A3.out).mono ?_
    (case side1 => repeat (first | exact (Kd.S_reads' HO166.out).2.2 | (with_reducible refine Kd.C_alloc ?_ _) | (with_reducible refine Kd.C_drewN ?_ _) | (with_reducible refine Kd.C_drew ?_)))
    (case side2 => exact (Kd.S_reads' HO166.out).2.1)
    rintro e w80 ⟨v178, rfl, ho0, hb⟩
    refine ⟨_, rfl, ?_⟩
    obtain ⟨HO166, HO179, BK163, BK171, HB⟩ := And.intro (Aside0.mk (Kd.S_below rS_ hb)) (And.intro (Aside0.mk (Kd.V_lower (Kd.V_mono (ok' := fun k_ => (w.heap.size ≤ k_) ∧ some k_ ≠ (.slice Ao74 t164.length co74 : Value).ownBlock ∧ k_ ≠ gb163 ∧ k_ ≠ gb171) ho0 (fun k_ hk_ => ⟨(Nat.le_trans (below_size hq_) hk_), (Kd.fresh' (Kd.S_lt rS_) k_ hk_), (Kd.freshB (g := gb163) (o := .cells #[.slice none 0 0, .int .i64 0, .int .i64 0, .string (⟨#[]⟩ : ByteArray)] 24 (0, 0)) bq_ k_ hk_), (Kd.freshB (g := gb171) (o := .cells #[.slice Ao74 t164.length co74, .int .i64 t167, .int .i64 t168, .string t169] 24 (0, 0)) bq_ k_ hk_)⟩)) (below_size hq_))) (And.intro (Aside0.mk (blk_below (g := gb163) (o := .cells #[.slice none 0 0, .int .i64 0, .int .i64 0, .string (⟨#[]⟩ : ByteArray)] 24 (0, 0)) bq_ hb)) (And.intro (Aside0.mk (blk_below (g := gb171) (o := .cells #[.slice Ao74 t164.length co74, .int .i64 t167, .int .i64 t168, .string t169] 24 (0, 0)) bq_ hb)) (Aside0.mk (below_step hq_ hb)))))
    (try clear hb)
    (try clear hb2)
    (try clear hk)
    (try clear hi)
    (try clear ho0)
    obtain ⟨Ao81, co81, eo81⟩ := Kd.V_slice HO179.out
    (first | subst eo81 | (injection eo81 with f1_ f2_ f3_; have f4_ := f1_.symm; have f5_ := f3_.symm; clear f1_ f2_ f3_; subst f4_; subst f5_))
    refine hK.out _ _ ⟨(blk_cell BK171.out 0).trans rfl, (blk_cell BK171.out 1).trans rfl, (blk_cell BK171.out 2).trans rfl, (blk_cell BK171.out 3).trans rfl⟩ (fun hHeld => ?_)
    clear hK K
    refine norm_ (a' := ?_) ?_ ?_
    rotate_left
    ·
     show Act.put _ (some 13) _ = _
     simp only [Act.put, sa_, s0_, s1_, i64_w, i32_w]
     rfl
    refine pA_ 3 10 ?_ (b_ 8 15) (any_of HT_.out (by kernel_rfl)) rfl rfl (fun _ _ _ h => h) (by rfl) ?_ ?_ ?_ ?_; rotate_left
    · intro w'; go_simp; with_reducible rfl
    rotate_left
    · simp only [Act.put, sa_, s0_, s1_, i64_w, i32_w]; rfl
    refine pA_ 4 14 ?_ (b_ 8 31) (any_of HT_.out (by kernel_rfl)) rfl rfl (fun _ _ _ h => h) (by rfl) ?_ ?_ ?_ ?_; rotate_left
    · intro w'; go_simp; with_reducible rfl
    rotate_left
    · simp only [Act.put, sa_, s0_, s1_, i64_w, i32_w]; rfl
    refine pA_ 5 15 ?_ (b_ 8 63) (any_of HT_.out (by kernel_rfl)) rfl rfl (fun _ _ _ h => h) (by rfl) ?_ ?_ ?_ ?_; rotate_left
    · intro w'; go_simp; with_reducible rfl
    rotate_left
    · simp only [Act.put, sa_, s0_, s1_, i64_w, i32_w]; rfl
    refine last_ (i := 6) (N := none) (b_ 8 127) rfl rfl (one_of HT_.out (by kernel_rfl)) (by decide) (fun K hK => ?_)
    have hs82 : w80.cell? ⟨gb171, 0, none⟩ = some (.slice Ao74 t164.length co74) := (blk_cell BK171.out 0).trans rfl
    have hfs82 := blk_frozen BK171.out 0
    have hns82_0 := NB163_171.out
    have hms82_0 := NB171_163.out
    have hs83 : w80.cell? ⟨gb171, 1, none⟩ = some (.int .i64 t167) := (blk_cell BK171.out 1).trans rfl
    have hfs83 := blk_frozen BK171.out 1
    have hns83_0 := NB163_171.out
    have hms83_0 := NB171_163.out
    have hs84 : w80.cell? ⟨gb171, 2, none⟩ = some (.int .i64 t168) := (blk_cell BK171.out 2).trans rfl
    have hfs84 := blk_frozen BK171.out 2
    have hns84_0 := NB163_171.out
    have hms84_0 := NB171_163.out
    have hs85 : w80.cell? ⟨gb171, 3, none⟩ = some (.string t169) := (blk_cell BK171.out 3).trans rfl
    have hfs85 := blk_frozen BK171.out 3
    have hns85_0 := NB163_171.out
    have hms85_0 := NB171_163.out
    refine skip_ (w1 := ?_) (by rfl) rfl ?_ ?_; rotate_left
    · go_simp; rfl
    refine hK.out _ _ ?_
    clear hK K
    refine pA_ 7 4 ?_ (b_ 8 255) (any_of HT_.out (by kernel_rfl)) rfl rfl (fun _ _ _ h => h) (by rfl) ?_ ?_ ?_ ?_; rotate_left
    · intro w'; go_simp; with_reducible rfl
    rotate_left
    · simp only [Act.put, sa_, s0_, s1_, i64_w, i32_w]; rfl
    refine done_ (done_of HT_.out (by kernel_rfl)) ?_
    try go_wp2
    have n0_ : Aside0 (Kd.S (Kd.slice 32 k32) 27 ((((w80.setCell ⟨gb171, 0, none⟩ (.slice Ao81 t177.length co81)).setCell ⟨gb171, 1, none⟩ (.int .i64 t180)).setCell ⟨gb171, 2, none⟩ (.int .i64 t181)).setCell ⟨gb171, 3, none⟩ (.string t182)) w.heap.size (fun k_ => (w.heap.size ≤ k_)) (.slice Ao74 t164.length co74) t164) := ⟨by (with_reducible repeat (first | apply Kd.S_alloc | apply Kd.S_drewN | apply Kd.S_drew)); exact Kd.S_mono (Kd.S_far (p := ⟨gb171, 3, none⟩) (Kd.S_far (p := ⟨gb171, 2, none⟩) (Kd.S_far (p := ⟨gb171, 1, none⟩) (Kd.S_far (p := ⟨gb171, 0, none⟩) (Kd.S_types HO166.out BK171.out (by decide)) (fun _ hk => hk.2) (.slice Ao81 t177.length co81)) (fun _ hk => hk.2) (.int .i64 t180)) (fun _ hk => hk.2) (.int .i64 t181)) (fun _ hk => hk.2) (.string t182)) (fun _ hk => hk.1)⟩
    have n1_ : Aside0 (Kd.V (Kd.slice 32 k32) 27 ((((w80.setCell ⟨gb171, 0, none⟩ (.slice Ao81 t177.length co81)).setCell ⟨gb171, 1, none⟩ (.int .i64 t180)).setCell ⟨gb171, 2, none⟩ (.int .i64 t181)).setCell ⟨gb171, 3, none⟩ (.string t182)) w.heap.size (fun k_ => (w.heap.size ≤ k_) ∧ some k_ ≠ (.slice Ao74 t164.length co74 : Value).ownBlock ∧ k_ ≠ gb163 ∧ k_ ≠ gb171) (.slice Ao81 t177.length co81) t177) := ⟨by (with_reducible repeat (first | apply Kd.V_alloc | apply Kd.V_drewN | apply Kd.V_drew)); exact Kd.V_mono (Kd.V_far (p := ⟨gb171, 3, none⟩) (Kd.V_far (p := ⟨gb171, 2, none⟩) (Kd.V_far (p := ⟨gb171, 1, none⟩) (Kd.V_far (p := ⟨gb171, 0, none⟩) (Kd.V_mono HO179.out (fun k_ hk => (⟨hk, hk.2.2.2⟩ : _ ∧ k_ ≠ gb171))) (fun _ hk => hk.2) (.slice Ao81 t177.length co81)) (fun _ hk => hk.2) (.int .i64 t180)) (fun _ hk => hk.2) (.int .i64 t181)) (fun _ hk => hk.2) (.string t182)) (fun _ hk => ⟨hk.1.1, ⟨hk.1.2.1, ⟨hk.1.2.2.1, hk.1.2.2.2⟩⟩⟩)⟩
    have n2_ : Aside0 (((((w80.setCell ⟨gb171, 0, none⟩ (.slice Ao81 t177.length co81)).setCell ⟨gb171, 1, none⟩ (.int .i64 t180)).setCell ⟨gb171, 2, none⟩ (.int .i64 t181)).setCell ⟨gb171, 3, none⟩ (.string t182)).heap[gb163]? = some (.cells #[.slice none 0 0, .int .i64 0, .int .i64 0, .string (⟨#[]⟩ : ByteArray)] 24 (0, 0))) := ⟨bf_⟩
    have n3_ : Aside0 (((((w80.setCell ⟨gb171, 0, none⟩ (.slice Ao81 t177.length co81)).setCell ⟨gb171, 1, none⟩ (.int .i64 t180)).setCell ⟨gb171, 2, none⟩ (.int .i64 t181)).setCell ⟨gb171, 3, none⟩ (.string t182)).heap[gb171]? = some (.cells #[.slice Ao81 t177.length co81, .int .i64 t180, .int .i64 t181, .string t182] 24 (0, 0))) := ⟨by (with_reducible repeat (first | refine blk_drewN ?_ _ | refine blk_drew ?_ | refine blk_alloc ?_ _)); refine blk_put (cs := #[.slice Ao81 t177.length co81, .int .i64 t180, .int .i64 t181, .string t169]) ?_ 3 _ rfl; (with_reducible repeat (first | refine blk_drewN ?_ _ | refine blk_drew ?_ | refine blk_alloc ?_ _)); refine blk_put (cs := #[.slice Ao81 t177.length co81, .int .i64 t180, .int .i64 t168, .string t169]) ?_ 2 _ rfl; (with_reducible repeat (first | refine blk_drewN ?_ _ | refine blk_drew ?_ | refine blk_alloc ?_ _)); refine blk_put (cs := #[.slice Ao81 t177.length co81, .int .i64 t167, .int .i64 t168, .string t169]) ?_ 1 _ rfl; (with_reducible repeat (first | refine blk_drewN ?_ _ | refine blk_drew ?_ | refine blk_alloc ?_ _)); refine blk_put (cs := #[.slice Ao74 t164.length co74, .int .i64 t167, .int .i64 t168, .string t169]) ?_ 0 _ rfl; (with_reducible repeat (first | refine blk_drewN ?_ _ | refine blk_drew ?_ | refine blk_alloc ?_ _)); exact BK171.out⟩
    have n4_ : Aside0 (Below w.heap.size w ((((w80.setCell ⟨gb171, 0, none⟩ (.slice Ao81 t177.length co81)).setCell ⟨gb171, 1, none⟩ (.int .i64 t180)).setCell ⟨gb171, 2, none⟩ (.int .i64 t181)).setCell ⟨gb171, 3, none⟩ (.string t182))) := ⟨hq_⟩
    (try clear HO166)
    (try clear HO179)
    (try clear BK163)
    (try clear BK171)
    (try clear HB)
    generalize ((((w80.setCell ⟨gb171, 0, none⟩ (.slice Ao81 t177.length co81)).setCell ⟨gb171, 1, none⟩ (.int .i64 t180)).setCell ⟨gb171, 2, none⟩ (.int .i64 t181)).setCell ⟨gb171, 3, none⟩ (.string t182)) = w86 at n0_ n1_ n2_ n3_ n4_ ⊢
    have HO166 := n0_
    have HO179 := n1_
    have BK163 := n2_
    have BK171 := n3_
    have HB := n4_
    clear n0_ n1_ n2_ n3_ n4_
    obtain ⟨HO166, HO179, BK163, BK171, HB⟩ := And.intro (Aside0.mk (Kd.S_drew HO166.out)) (And.intro (Aside0.mk (Kd.V_drew HO179.out)) (And.intro (Aside0.mk (blk_drew BK163.out)) (And.intro (Aside0.mk (blk_drew BK171.out)) (Aside0.mk (below_drew1 HB.out)))))
    refine start_ (n := 8) (S := fun w' => w'.cell? ⟨gb171, 0, none⟩ = some (.slice Ao81 t177.length co81) ∧ w'.cell? ⟨gb171, 1, none⟩ = some (.int .i64 t180) ∧ w'.cell? ⟨gb171, 2, none⟩ = some (.int .i64 t181) ∧ w'.cell? ⟨gb171, 3, none⟩ = some (.string t182)) (ds := [6]) (b_ 8 0) (by kernel_rfl) rfl rfl ⟨(blk_cell BK171.out 0).trans rfl, (blk_cell BK171.out 1).trans rfl, (blk_cell BK171.out 2).trans rfl, (blk_cell BK171.out 3).trans rfl⟩ (fun hHeld => ?_); refine with_tabW millhandlaw16_two.tab3 millhandlaw16_two.bits3 (fun HT_ HW_ => ?_)
    generalize w86.drew = w87 at HO166 HO179 BK163 BK171 HB hHeld ⊢
    refine tA_ 0 17 ?_ (b_ 8 1) (take_ofW HT_.out HW_.out (by kernel_rfl)) rfl rfl (fun _ _ _ h => h) (by rfl) ?_ hHeld ?_ ?_ ?_; rotate_left
    · rintro w' ⟨s0, s1, s2, s3⟩; go_simp; with_reducible rfl
    rotate_left
    · simp only [Act.put, sa_, s0_, s1_, i64_w, i32_w]; rfl
    refine one_ (i := 1) (N := some 18) (b_ 8 3) rfl rfl (one_of HT_.out (by kernel_rfl)) (by decide) (fun K hK => ?_)
    refine goes_ Try.func32 (by kernel_rfl) rfl #[.string (⟨#[98]⟩ : ByteArray), .string (⟨#[99]⟩ : ByteArray), .string (⟨#[102]⟩ : ByteArray)] (by rfl) rfl rfl (by (try simp only [List.map_toArray, List.map_cons, List.map_nil]); first | done | rfl | (simp only [List.length_drop, List.length_take]; rfl)) ?_
    with_reducible refine (millhandlaw16_table.calls (⟨#[98]⟩ : ByteArray) (⟨#[99]⟩ : ByteArray) (⟨#[102]⟩ : ByteArray) t184 t185 t186 t187 t188 _ A4.out).mono ?_
    rintro e w88 ⟨rfl, hb⟩
    refine ⟨_, rfl, ?_⟩
    obtain ⟨HO166, HO179, BK163, BK171, HB⟩ := And.intro (Aside0.mk (Kd.S_below rS_ hb)) (And.intro (Aside0.mk (Kd.V_below rV_ hb)) (And.intro (Aside0.mk (blk_below (g := gb163) (o := .cells #[.slice none 0 0, .int .i64 0, .int .i64 0, .string (⟨#[]⟩ : ByteArray)] 24 (0, 0)) bq_ hb)) (And.intro (Aside0.mk (blk_below (g := gb171) (o := .cells #[.slice Ao81 t177.length co81, .int .i64 t180, .int .i64 t181, .string t182] 24 (0, 0)) bq_ hb)) (Aside0.mk (below_step hq_ hb)))))
    (try clear hb)
    (try clear hb2)
    (try clear hk)
    (try clear hi)
    refine hK.out _ _ ⟨(blk_cell BK171.out 0).trans rfl, (blk_cell BK171.out 1).trans rfl, (blk_cell BK171.out 2).trans rfl, (blk_cell BK171.out 3).trans rfl⟩ (fun hHeld => ?_)
    clear hK K
    refine norm_ (a' := ?_) ?_ ?_
    rotate_left
    ·
     show Act.put _ (some 18) _ = _
     simp only [Act.put, sa_, s0_, s1_, i64_w, i32_w]
     rfl
    refine one_ (i := 2) (N := some 19) (b_ 8 7) rfl rfl (one_of HT_.out (by kernel_rfl)) (by decide) (fun K hK => ?_)
    refine goes_ Try.func15 (by kernel_rfl) rfl #[.agg #[.slice Ao81 t177.length co81, .int .i64 t180, .int .i64 t181, .string t182], .agg #[.string t184, .int .i64 t185, .int .i64 t186, .string t187, .string t188]] (by rfl) rfl rfl (by (try simp only [List.map_toArray, List.map_cons, List.map_nil]); first | done | rfl | (simp only [List.length_drop, List.length_take]; rfl)) ?_
    with_reducible refine (version_Add.calls k _ _ t177 t180 t181 t182 t184 t185 t186 t187 t188 t189 t192 t193 t194 t195 _ ?side1 ?side2 A5.out).mono ?_
    (case side1 => repeat (first | exact (Kd.V_reads' HO179.out).2.2 | (with_reducible refine Kd.C_alloc ?_ _) | (with_reducible refine Kd.C_drewN ?_ _) | (with_reducible refine Kd.C_drew ?_)))
    (case side2 => exact (Kd.V_reads' HO179.out).2.1)
    rintro e w89 ⟨v190, rfl, ho0, hb⟩
    refine ⟨_, rfl, ?_⟩
    obtain ⟨HO166, HO179, HO191, BK163, BK171, HB⟩ := And.intro (Aside0.mk (Kd.S_below rS_ hb)) (And.intro (Aside0.mk (Kd.V_below rV_ hb)) (And.intro (Aside0.mk (Kd.V_lower (Kd.V_mono (ok' := fun k_ => (w.heap.size ≤ k_) ∧ some k_ ≠ (.slice Ao74 t164.length co74 : Value).ownBlock ∧ k_ ≠ gb163 ∧ k_ ≠ gb171) ho0 (fun k_ hk_ => ⟨(Nat.le_trans (below_size hq_) hk_), (Kd.fresh' (Kd.S_lt rS_) k_ hk_), (Kd.freshB (g := gb163) (o := .cells #[.slice none 0 0, .int .i64 0, .int .i64 0, .string (⟨#[]⟩ : ByteArray)] 24 (0, 0)) bq_ k_ hk_), (Kd.freshB (g := gb171) (o := .cells #[.slice Ao81 t177.length co81, .int .i64 t180, .int .i64 t181, .string t182] 24 (0, 0)) bq_ k_ hk_)⟩)) (below_size hq_))) (And.intro (Aside0.mk (blk_below (g := gb163) (o := .cells #[.slice none 0 0, .int .i64 0, .int .i64 0, .string (⟨#[]⟩ : ByteArray)] 24 (0, 0)) bq_ hb)) (And.intro (Aside0.mk (blk_below (g := gb171) (o := .cells #[.slice Ao81 t177.length co81, .int .i64 t180, .int .i64 t181, .string t182] 24 (0, 0)) bq_ hb)) (Aside0.mk (below_step hq_ hb))))))
    (try clear hb)
    (try clear hb2)
    (try clear hk)
    (try clear hi)
    (try clear ho0)
    obtain ⟨Ao90, co90, eo90⟩ := Kd.V_slice HO191.out
    (first | subst eo90 | (injection eo90 with f1_ f2_ f3_; have f4_ := f1_.symm; have f5_ := f3_.symm; clear f1_ f2_ f3_; subst f4_; subst f5_))
    refine hK.out _ _ ⟨(blk_cell BK171.out 0).trans rfl, (blk_cell BK171.out 1).trans rfl, (blk_cell BK171.out 2).trans rfl, (blk_cell BK171.out 3).trans rfl⟩ (fun hHeld => ?_)
    clear hK K
    refine norm_ (a' := ?_) ?_ ?_
    rotate_left
    ·
     show Act.put _ (some 19) _ = _
     simp only [Act.put, sa_, s0_, s1_, i64_w, i32_w]
     rfl
    refine pA_ 3 16 ?_ (b_ 8 15) (any_of HT_.out (by kernel_rfl)) rfl rfl (fun _ _ _ h => h) (by rfl) ?_ ?_ ?_ ?_; rotate_left
    · intro w'; go_simp; with_reducible rfl
    rotate_left
    · simp only [Act.put, sa_, s0_, s1_, i64_w, i32_w]; rfl
    refine pA_ 4 20 ?_ (b_ 8 31) (any_of HT_.out (by kernel_rfl)) rfl rfl (fun _ _ _ h => h) (by rfl) ?_ ?_ ?_ ?_; rotate_left
    · intro w'; go_simp; with_reducible rfl
    rotate_left
    · simp only [Act.put, sa_, s0_, s1_, i64_w, i32_w]; rfl
    refine pA_ 5 21 ?_ (b_ 8 63) (any_of HT_.out (by kernel_rfl)) rfl rfl (fun _ _ _ h => h) (by rfl) ?_ ?_ ?_ ?_; rotate_left
    · intro w'; go_simp; with_reducible rfl
    rotate_left
    · simp only [Act.put, sa_, s0_, s1_, i64_w, i32_w]; rfl
    refine last_ (i := 6) (N := none) (b_ 8 127) rfl rfl (one_of HT_.out (by kernel_rfl)) (by decide) (fun K hK => ?_)
    have hs91 : w89.cell? ⟨gb171, 0, none⟩ = some (.slice Ao81 t177.length co81) := (blk_cell BK171.out 0).trans rfl
    have hfs91 := blk_frozen BK171.out 0
    have hns91_0 := NB163_171.out
    have hms91_0 := NB171_163.out
    have hs92 : w89.cell? ⟨gb171, 1, none⟩ = some (.int .i64 t180) := (blk_cell BK171.out 1).trans rfl
    have hfs92 := blk_frozen BK171.out 1
    have hns92_0 := NB163_171.out
    have hms92_0 := NB171_163.out
    have hs93 : w89.cell? ⟨gb171, 2, none⟩ = some (.int .i64 t181) := (blk_cell BK171.out 2).trans rfl
    have hfs93 := blk_frozen BK171.out 2
    have hns93_0 := NB163_171.out
    have hms93_0 := NB171_163.out
    have hs94 : w89.cell? ⟨gb171, 3, none⟩ = some (.string t182) := (blk_cell BK171.out 3).trans rfl
    have hfs94 := blk_frozen BK171.out 3
    have hns94_0 := NB163_171.out
    have hms94_0 := NB171_163.out
    refine skip_ (w1 := ?_) (by rfl) rfl ?_ ?_; rotate_left
    · go_simp; rfl
    refine hK.out _ _ ?_
    clear hK K
    refine pA_ 7 5 ?_ (b_ 8 255) (any_of HT_.out (by kernel_rfl)) rfl rfl (fun _ _ _ h => h) (by rfl) ?_ ?_ ?_ ?_; rotate_left
    · intro w'; go_simp; with_reducible rfl
    rotate_left
    · simp only [Act.put, sa_, s0_, s1_, i64_w, i32_w]; rfl
    refine done_ (done_of HT_.out (by kernel_rfl)) ?_
    try go_wp2
    have n0_ : Aside0 (Kd.S (Kd.slice 32 k32) 27 ((((w89.setCell ⟨gb171, 0, none⟩ (.slice Ao90 t189.length co90)).setCell ⟨gb171, 1, none⟩ (.int .i64 t192)).setCell ⟨gb171, 2, none⟩ (.int .i64 t193)).setCell ⟨gb171, 3, none⟩ (.string t194)) w.heap.size (fun k_ => (w.heap.size ≤ k_)) (.slice Ao74 t164.length co74) t164) := ⟨by (with_reducible repeat (first | apply Kd.S_alloc | apply Kd.S_drewN | apply Kd.S_drew)); exact Kd.S_mono (Kd.S_far (p := ⟨gb171, 3, none⟩) (Kd.S_far (p := ⟨gb171, 2, none⟩) (Kd.S_far (p := ⟨gb171, 1, none⟩) (Kd.S_far (p := ⟨gb171, 0, none⟩) (Kd.S_types HO166.out BK171.out (by decide)) (fun _ hk => hk.2) (.slice Ao90 t189.length co90)) (fun _ hk => hk.2) (.int .i64 t192)) (fun _ hk => hk.2) (.int .i64 t193)) (fun _ hk => hk.2) (.string t194)) (fun _ hk => hk.1)⟩
    have n1_ : Aside0 (Kd.V (Kd.slice 32 k32) 27 ((((w89.setCell ⟨gb171, 0, none⟩ (.slice Ao90 t189.length co90)).setCell ⟨gb171, 1, none⟩ (.int .i64 t192)).setCell ⟨gb171, 2, none⟩ (.int .i64 t193)).setCell ⟨gb171, 3, none⟩ (.string t194)) w.heap.size (fun k_ => (w.heap.size ≤ k_) ∧ some k_ ≠ (.slice Ao74 t164.length co74 : Value).ownBlock ∧ k_ ≠ gb163 ∧ k_ ≠ gb171) (.slice Ao81 t177.length co81) t177) := ⟨by (with_reducible repeat (first | apply Kd.V_alloc | apply Kd.V_drewN | apply Kd.V_drew)); exact Kd.V_mono (Kd.V_far (p := ⟨gb171, 3, none⟩) (Kd.V_far (p := ⟨gb171, 2, none⟩) (Kd.V_far (p := ⟨gb171, 1, none⟩) (Kd.V_far (p := ⟨gb171, 0, none⟩) (Kd.V_mono HO179.out (fun k_ hk => (⟨hk, hk.2.2.2⟩ : _ ∧ k_ ≠ gb171))) (fun _ hk => hk.2) (.slice Ao90 t189.length co90)) (fun _ hk => hk.2) (.int .i64 t192)) (fun _ hk => hk.2) (.int .i64 t193)) (fun _ hk => hk.2) (.string t194)) (fun _ hk => ⟨hk.1.1, ⟨hk.1.2.1, ⟨hk.1.2.2.1, hk.1.2.2.2⟩⟩⟩)⟩
    have n2_ : Aside0 (Kd.V (Kd.slice 32 k32) 27 ((((w89.setCell ⟨gb171, 0, none⟩ (.slice Ao90 t189.length co90)).setCell ⟨gb171, 1, none⟩ (.int .i64 t192)).setCell ⟨gb171, 2, none⟩ (.int .i64 t193)).setCell ⟨gb171, 3, none⟩ (.string t194)) w.heap.size (fun k_ => (w.heap.size ≤ k_) ∧ some k_ ≠ (.slice Ao74 t164.length co74 : Value).ownBlock ∧ k_ ≠ gb163 ∧ k_ ≠ gb171) (.slice Ao90 t189.length co90) t189) := ⟨by (with_reducible repeat (first | apply Kd.V_alloc | apply Kd.V_drewN | apply Kd.V_drew)); exact Kd.V_mono (Kd.V_far (p := ⟨gb171, 3, none⟩) (Kd.V_far (p := ⟨gb171, 2, none⟩) (Kd.V_far (p := ⟨gb171, 1, none⟩) (Kd.V_far (p := ⟨gb171, 0, none⟩) (Kd.V_mono HO191.out (fun k_ hk => (⟨hk, hk.2.2.2⟩ : _ ∧ k_ ≠ gb171))) (fun _ hk => hk.2) (.slice Ao90 t189.length co90)) (fun _ hk => hk.2) (.int .i64 t192)) (fun _ hk => hk.2) (.int .i64 t193)) (fun _ hk => hk.2) (.string t194)) (fun _ hk => ⟨hk.1.1, ⟨hk.1.2.1, ⟨hk.1.2.2.1, hk.1.2.2.2⟩⟩⟩)⟩
    have n3_ : Aside0 (((((w89.setCell ⟨gb171, 0, none⟩ (.slice Ao90 t189.length co90)).setCell ⟨gb171, 1, none⟩ (.int .i64 t192)).setCell ⟨gb171, 2, none⟩ (.int .i64 t193)).setCell ⟨gb171, 3, none⟩ (.string t194)).heap[gb163]? = some (.cells #[.slice none 0 0, .int .i64 0, .int .i64 0, .string (⟨#[]⟩ : ByteArray)] 24 (0, 0))) := ⟨bf_⟩
    have n4_ : Aside0 (((((w89.setCell ⟨gb171, 0, none⟩ (.slice Ao90 t189.length co90)).setCell ⟨gb171, 1, none⟩ (.int .i64 t192)).setCell ⟨gb171, 2, none⟩ (.int .i64 t193)).setCell ⟨gb171, 3, none⟩ (.string t194)).heap[gb171]? = some (.cells #[.slice Ao90 t189.length co90, .int .i64 t192, .int .i64 t193, .string t194] 24 (0, 0))) := ⟨by (with_reducible repeat (first | refine blk_drewN ?_ _ | refine blk_drew ?_ | refine blk_alloc ?_ _)); refine blk_put (cs := #[.slice Ao90 t189.length co90, .int .i64 t192, .int .i64 t193, .string t182]) ?_ 3 _ rfl; (with_reducible repeat (first | refine blk_drewN ?_ _ | refine blk_drew ?_ | refine blk_alloc ?_ _)); refine blk_put (cs := #[.slice Ao90 t189.length co90, .int .i64 t192, .int .i64 t181, .string t182]) ?_ 2 _ rfl; (with_reducible repeat (first | refine blk_drewN ?_ _ | refine blk_drew ?_ | refine blk_alloc ?_ _)); refine blk_put (cs := #[.slice Ao90 t189.length co90, .int .i64 t180, .int .i64 t181, .string t182]) ?_ 1 _ rfl; (with_reducible repeat (first | refine blk_drewN ?_ _ | refine blk_drew ?_ | refine blk_alloc ?_ _)); refine blk_put (cs := #[.slice Ao81 t177.length co81, .int .i64 t180, .int .i64 t181, .string t182]) ?_ 0 _ rfl; (with_reducible repeat (first | refine blk_drewN ?_ _ | refine blk_drew ?_ | refine blk_alloc ?_ _)); exact BK171.out⟩
    have n5_ : Aside0 (Below w.heap.size w ((((w89.setCell ⟨gb171, 0, none⟩ (.slice Ao90 t189.length co90)).setCell ⟨gb171, 1, none⟩ (.int .i64 t192)).setCell ⟨gb171, 2, none⟩ (.int .i64 t193)).setCell ⟨gb171, 3, none⟩ (.string t194))) := ⟨hq_⟩
    (try clear HO166)
    (try clear HO179)
    (try clear HO191)
    (try clear BK163)
    (try clear BK171)
    (try clear HB)
    generalize ((((w89.setCell ⟨gb171, 0, none⟩ (.slice Ao90 t189.length co90)).setCell ⟨gb171, 1, none⟩ (.int .i64 t192)).setCell ⟨gb171, 2, none⟩ (.int .i64 t193)).setCell ⟨gb171, 3, none⟩ (.string t194)) = w95 at n0_ n1_ n2_ n3_ n4_ n5_ ⊢
    have HO166 := n0_
    have HO179 := n1_
    have HO191 := n2_
    have BK163 := n3_
    have BK171 := n4_
    have HB := n5_
    clear n0_ n1_ n2_ n3_ n4_ n5_
    obtain ⟨HO166, HO179, HO191, BK163, BK171, HB⟩ := And.intro (Aside0.mk (Kd.S_drew HO166.out)) (And.intro (Aside0.mk (Kd.V_drew HO179.out)) (And.intro (Aside0.mk (Kd.V_drew HO191.out)) (And.intro (Aside0.mk (blk_drew BK163.out)) (And.intro (Aside0.mk (blk_drew BK171.out)) (Aside0.mk (below_drew1 HB.out))))))
    refine start_ (n := 27) (S := fun w' => w'.cell? ⟨gb171, 0, none⟩ = some (.slice Ao90 t189.length co90) ∧ w'.cell? ⟨gb171, 1, none⟩ = some (.int .i64 t192) ∧ w'.cell? ⟨gb171, 2, none⟩ = some (.int .i64 t193) ∧ w'.cell? ⟨gb171, 3, none⟩ = some (.string t194)) (ds := []) (b_ 27 0) (by kernel_rfl) rfl rfl ⟨(blk_cell BK171.out 0).trans rfl, (blk_cell BK171.out 1).trans rfl, (blk_cell BK171.out 2).trans rfl, (blk_cell BK171.out 3).trans rfl⟩ (fun hHeld => ?_); refine with_tabW millhandlaw16_two.tab4 millhandlaw16_two.bits4 (fun HT_ HW_ => ?_)
    generalize w95.drew = w96 at HO166 HO179 HO191 BK163 BK171 HB hHeld ⊢
    refine pA_ 1 23 ?_ (b_ 27 2) (any_of HT_.out (by kernel_rfl)) rfl rfl (fun _ _ _ h => h) (by rfl) ?_ ?_ ?_ ?_; rotate_left
    · intro w'; go_simp; with_reducible rfl
    rotate_left
    · simp only [Act.put, sa_, s0_, s1_, i64_w, i32_w]; rfl
    refine pA_ 2 24 ?_ (b_ 27 6) (any_of HT_.out (by kernel_rfl)) rfl rfl (fun _ _ _ h => h) (by rfl) ?_ ?_ ?_ ?_; rotate_left
    · intro w'; go_simp; with_reducible rfl
    rotate_left
    · simp only [Act.put, sa_, s0_, s1_, i64_w, i32_w]; rfl
    refine pA_ 3 25 ?_ (b_ 27 14) (any_of HT_.out (by kernel_rfl)) rfl rfl (fun _ _ _ h => h) (by rfl) ?_ ?_ ?_ ?_; rotate_left
    · intro w'; go_simp; with_reducible rfl
    rotate_left
    · simp only [Act.put, sa_, s0_, s1_, i64_w, i32_w]; rfl
    refine pA_ 4 26 ?_ (b_ 27 30) (any_of HT_.out (by kernel_rfl)) rfl rfl (fun _ _ _ h => h) (by rfl) ?_ ?_ ?_ ?_; rotate_left
    · intro w'; go_simp; with_reducible rfl
    rotate_left
    · simp only [Act.put, sa_, s0_, s1_, i64_w, i32_w]; rfl
    refine pA_ 5 27 ?_ (b_ 27 62) (any_of HT_.out (by kernel_rfl)) rfl rfl (fun _ _ _ h => h) (by rfl) ?_ ?_ ?_ ?_; rotate_left
    · intro w'; go_simp; with_reducible rfl
    rotate_left
    · simp only [Act.put, sa_, s0_, s1_, i64_w, i32_w]; rfl
    refine pA_ 6 28 ?_ (b_ 27 126) (any_of HT_.out (by kernel_rfl)) rfl rfl (fun _ _ _ h => h) (by rfl) ?_ ?_ ?_ ?_; rotate_left
    · intro w'; go_simp; with_reducible rfl
    rotate_left
    · simp only [Act.put, sa_, s0_, s1_, i64_w, i32_w]; rfl
    refine pA_ 7 29 ?_ (b_ 27 254) (any_of HT_.out (by kernel_rfl)) rfl rfl (fun _ _ _ h => h) (by rfl) ?_ ?_ ?_ ?_; rotate_left
    · intro w'; go_simp; with_reducible rfl
    rotate_left
    · simp only [Act.put, sa_, s0_, s1_, i64_w, i32_w]; rfl
    refine pA_ 8 30 ?_ (b_ 27 510) (any_of HT_.out (by kernel_rfl)) rfl rfl (fun _ _ _ h => h) (by rfl) ?_ ?_ ?_ ?_; rotate_left
    · intro w'; go_simp; with_reducible rfl
    rotate_left
    · simp only [Act.put, sa_, s0_, s1_, i64_w, i32_w]; rfl
    refine pA_ 9 31 ?_ (b_ 27 1022) (any_of HT_.out (by kernel_rfl)) rfl rfl (fun _ _ _ h => h) (by rfl) ?_ ?_ ?_ ?_; rotate_left
    · intro w'; go_simp; with_reducible rfl
    rotate_left
    · simp only [Act.put, sa_, s0_, s1_, i64_w, i32_w]; rfl
    refine pA_ 10 32 ?_ (b_ 27 2046) (any_of HT_.out (by kernel_rfl)) rfl rfl (fun _ _ _ h => h) (by rfl) ?_ ?_ ?_ ?_; rotate_left
    · intro w'; go_simp; with_reducible rfl
    rotate_left
    · simp only [Act.put, sa_, s0_, s1_, i64_w, i32_w]; rfl
    refine pA_ 11 33 ?_ (b_ 27 4094) (any_of HT_.out (by kernel_rfl)) rfl rfl (fun _ _ _ h => h) (by rfl) ?_ ?_ ?_ ?_; rotate_left
    · intro w'; go_simp; with_reducible rfl
    rotate_left
    · simp only [Act.put, sa_, s0_, s1_, i64_w, i32_w]; rfl
    refine pB_ 12 34 ?_ (b_ 27 8190) (any_of HT_.out (by kernel_rfl)) rfl rfl (fun _ _ _ h => h) (by rfl) ?_ ?_; rotate_left
    · simp only [Act.put, sa_, s0_, s1_, i64_w, i32_w]; rfl
    refine pB_ 13 35 ?_ (b_ 27 16382) (any_of HT_.out (by kernel_rfl)) rfl rfl (fun _ _ _ h => h) (by rfl) ?_ ?_; rotate_left
    · simp only [Act.put, sa_, s0_, s1_, i64_w, i32_w]; rfl
    refine pB_ 14 36 ?_ (b_ 27 32766) (any_of HT_.out (by kernel_rfl)) rfl rfl (fun _ _ _ h => h) (by rfl) ?_ ?_; rotate_left
    · simp only [Act.put, sa_, s0_, s1_, i64_w, i32_w]; rfl
    refine pB_ 15 37 ?_ (b_ 27 65534) (any_of HT_.out (by kernel_rfl)) rfl rfl (fun _ _ _ h => h) (by rfl) ?_ ?_; rotate_left
    · simp only [Act.put, sa_, s0_, s1_, i64_w, i32_w]; rfl
    refine pA_ 16 38 ?_ (b_ 27 131070) (any_of HT_.out (by kernel_rfl)) rfl rfl (fun _ _ _ h => h) (by rfl) ?_ ?_ ?_ ?_; rotate_left
    · intro w'; go_simp; with_reducible rfl
    rotate_left
    · simp only [Act.put, sa_, s0_, s1_, i64_w, i32_w]; rfl
    refine pA_ 17 39 ?_ (b_ 27 262142) (any_of HT_.out (by kernel_rfl)) rfl rfl (fun _ _ _ h => h) (by rfl) ?_ ?_ ?_ ?_; rotate_left
    · intro w'; go_simp; with_reducible rfl
    rotate_left
    · simp only [Act.put, sa_, s0_, s1_, i64_w, i32_w]; rfl
    refine pB_ 18 40 ?_ (b_ 27 524286) (any_of HT_.out (by kernel_rfl)) rfl rfl (fun _ _ _ h => h) (by rfl) ?_ ?_; rotate_left
    · simp only [Act.put, sa_, s0_, s1_, i64_w, i32_w]; rfl
    refine pB_ 19 41 ?_ (b_ 27 1048574) (any_of HT_.out (by kernel_rfl)) rfl rfl (fun _ _ _ h => h) (by rfl) ?_ ?_; rotate_left
    · simp only [Act.put, sa_, s0_, s1_, i64_w, i32_w]; rfl
    refine pB_ 20 42 ?_ (b_ 27 2097150) (any_of HT_.out (by kernel_rfl)) rfl rfl (fun _ _ _ h => h) (by rfl) ?_ ?_; rotate_left
    · simp only [Act.put, sa_, s0_, s1_, i64_w, i32_w]; rfl
    refine pB_ 21 43 ?_ (b_ 27 4194302) (any_of HT_.out (by kernel_rfl)) rfl rfl (fun _ _ _ h => h) (by rfl) ?_ ?_; rotate_left
    · simp only [Act.put, sa_, s0_, s1_, i64_w, i32_w]; rfl
    refine pB_ 22 44 ?_ (b_ 27 8388606) (any_of HT_.out (by kernel_rfl)) rfl rfl (fun _ _ _ h => h) (by rfl) ?_ ?_; rotate_left
    · simp only [Act.put, sa_, s0_, s1_, i64_w, i32_w]; rfl
    refine pB_ 23 45 ?_ (b_ 27 16777214) (any_of HT_.out (by kernel_rfl)) rfl rfl (fun _ _ _ h => h) (by rfl) ?_ ?_; rotate_left
    · simp only [Act.put, sa_, s0_, s1_, i64_w, i32_w]; rfl
    refine pA_ 24 46 ?_ (b_ 27 33554430) (any_of HT_.out (by kernel_rfl)) rfl rfl (fun _ _ _ h => h) (by rfl) ?_ ?_ ?_ ?_; rotate_left
    · intro w'; go_simp; with_reducible rfl
    rotate_left
    · simp only [Act.put, sa_, s0_, s1_, i64_w, i32_w]; rfl
    refine tA_ 0 22 ?_ (b_ 27 33554431) (take_ofW HT_.out HW_.out (by kernel_rfl)) rfl rfl (fun _ _ _ h => h) (by rfl) ?_ hHeld ?_ ?_ ?_; rotate_left
    · rintro w' ⟨s0, s1, s2, s3⟩; go_simp; with_reducible rfl
    rotate_left
    · simp only [Act.put, sa_, s0_, s1_, i64_w, i32_w]; rfl
    refine one_ (i := 25) (N := none) (b_ 27 67108863) rfl rfl (one_of HT_.out (by kernel_rfl)) (by decide) (fun K hK => ?_)
    have hs97 : w96.cell? ⟨gb163, 0, none⟩ = some (.slice none 0 0) := (blk_cell BK163.out 0).trans rfl
    have hfs97 := blk_frozen BK163.out 0
    have hns97_1 := NB171_163.out
    have hms97_1 := NB163_171.out
    have hs98 : w96.cell? ⟨gb163, 1, none⟩ = some (.int .i64 0) := (blk_cell BK163.out 1).trans rfl
    have hfs98 := blk_frozen BK163.out 1
    have hns98_1 := NB171_163.out
    have hms98_1 := NB163_171.out
    have hs99 : w96.cell? ⟨gb163, 2, none⟩ = some (.int .i64 0) := (blk_cell BK163.out 2).trans rfl
    have hfs99 := blk_frozen BK163.out 2
    have hns99_1 := NB171_163.out
    have hms99_1 := NB163_171.out
    have hs100 : w96.cell? ⟨gb163, 3, none⟩ = some (.string (⟨#[]⟩ : ByteArray)) := (blk_cell BK163.out 3).trans rfl
    have hfs100 := blk_frozen BK163.out 3
    have hns100_1 := NB171_163.out
    have hms100_1 := NB163_171.out
    refine skip_ (w1 := ?_) (by rfl) rfl ?_ ?_; rotate_left
    · go_simp; rfl
    refine hK.out _ _ ⟨((cell_far (p := ⟨gb163, _, none⟩) NB171_163.out _).trans (((cell_far (p := ⟨gb163, _, none⟩) NB171_163.out _).trans (((cell_far (p := ⟨gb163, _, none⟩) NB171_163.out _).trans (((cell_far (p := ⟨gb163, _, none⟩) NB171_163.out _).trans (hHeld.1)))))))), ((cell_far (p := ⟨gb163, _, none⟩) NB171_163.out _).trans (((cell_far (p := ⟨gb163, _, none⟩) NB171_163.out _).trans (((cell_far (p := ⟨gb163, _, none⟩) NB171_163.out _).trans (((cell_far (p := ⟨gb163, _, none⟩) NB171_163.out _).trans (hHeld.2.1)))))))), ((cell_far (p := ⟨gb163, _, none⟩) NB171_163.out _).trans (((cell_far (p := ⟨gb163, _, none⟩) NB171_163.out _).trans (((cell_far (p := ⟨gb163, _, none⟩) NB171_163.out _).trans (((cell_far (p := ⟨gb163, _, none⟩) NB171_163.out _).trans (hHeld.2.2.1)))))))), ((cell_far (p := ⟨gb163, _, none⟩) NB171_163.out _).trans (((cell_far (p := ⟨gb163, _, none⟩) NB171_163.out _).trans (((cell_far (p := ⟨gb163, _, none⟩) NB171_163.out _).trans (((cell_far (p := ⟨gb163, _, none⟩) NB171_163.out _).trans (hHeld.2.2.2))))))))⟩ (fun hHeld => ?_)
    clear hK K
    refine pA_ 26 1 ?_ (b_ 27 134217727) (any_of HT_.out (by kernel_rfl)) rfl rfl (fun _ _ _ h => h) (by rfl) ?_ ?_ ?_ ?_; rotate_left
    · intro w'; go_simp; with_reducible rfl
    rotate_left
    · simp only [Act.put, sa_, s0_, s1_, i64_w, i32_w]; rfl
    refine done_ (done_of HT_.out (by kernel_rfl)) ?_
    try go_wp2
    refine bodyPost_ret (results_ct rfl _ _ gb163 24 #[.slice Ao90 t189.length co90, .int .i64 t192, .int .i64 t193, .string t194] (0, 0) _ rfl (by (with_reducible repeat (first | refine blk_drewN ?_ _ | refine blk_drew ?_ | refine blk_alloc ?_ _)); refine blk_put (cs := #[.slice Ao90 t189.length co90, .int .i64 t192, .int .i64 t193, .string (⟨#[]⟩ : ByteArray)]) ?_ 3 _ rfl; (with_reducible repeat (first | refine blk_drewN ?_ _ | refine blk_drew ?_ | refine blk_alloc ?_ _)); refine blk_put (cs := #[.slice Ao90 t189.length co90, .int .i64 t192, .int .i64 0, .string (⟨#[]⟩ : ByteArray)]) ?_ 2 _ rfl; (with_reducible repeat (first | refine blk_drewN ?_ _ | refine blk_drew ?_ | refine blk_alloc ?_ _)); refine blk_put (cs := #[.slice Ao90 t189.length co90, .int .i64 0, .int .i64 0, .string (⟨#[]⟩ : ByteArray)]) ?_ 1 _ rfl; (with_reducible repeat (first | refine blk_drewN ?_ _ | refine blk_drew ?_ | refine blk_alloc ?_ _)); refine blk_put (cs := #[.slice none 0 0, .int .i64 0, .int .i64 0, .string (⟨#[]⟩ : ByteArray)]) ?_ 0 _ rfl; (with_reducible repeat (first | refine blk_drewN ?_ _ | refine blk_drew ?_ | refine blk_alloc ?_ _)); exact BK163.out) Try.underlying24 rfl (by kernel_rfl)) rfl ?_
    exact ⟨_, by first | rfl | (simp [errW_none, errW_some] <;> rfl) | (simp [*, errW_none, errW_some] <;> rfl) | exact ret_ie _ | (simp [*, errW_none, errW_some, bne]; done), by (with_reducible repeat (first | apply Kd.V_alloc | apply Kd.V_drewN | apply Kd.V_drew)); exact Kd.V_mono (Kd.V_far (p := ⟨gb163, 3, none⟩) (Kd.V_far (p := ⟨gb163, 2, none⟩) (Kd.V_far (p := ⟨gb163, 1, none⟩) (Kd.V_far (p := ⟨gb163, 0, none⟩) (Kd.V_mono HO191.out (fun k_ hk => (⟨hk, hk.2.2.1⟩ : _ ∧ k_ ≠ gb163))) (fun _ hk => hk.2) (.slice Ao90 t189.length co90)) (fun _ hk => hk.2) (.int .i64 t192)) (fun _ hk => hk.2) (.int .i64 t193)) (fun _ hk => hk.2) (.string t194)) (fun _ hk => hk.1.1), by repeat (first | (with_reducible first | exact HB.out | apply below_alloc | apply pw_below_drewN | apply below_drew1 | refine below_set ?_ GE163.out | refine below_set ?_ GE171.out) | exact HB.out)⟩
  ·
   rw [if_neg c7] at H
   have c7b0 : (t183 == 0) = false := beq_eq_false_iff_ne.mpr c7
   have c7b1 : (t183 != 0) = true := bne_iff_ne.mpr c7
   simp only [Option.some.injEq, Prod.mk.injEq] at H
   obtain ⟨rfl, rfl, rfl, rfl, rfl⟩ := H
   go_enter Try.func31, Try.ntmps31
   try go_wp2_with (first | ((with_reducible refine gate_dst (N := 0) rfl ?_); (try (refine gate_guard (by rfl) ?_; dsimp only)); refine box_event ?hg (N := 0) ?hd (cs := #[.slice none 0 0, .int .i64 0, .int .i64 0, .string (⟨#[]⟩ : ByteArray)]) (t := 24) ?hr ?_; (case hd => rfl); (case hg => rfl); (case hr => first | (go_simp; done) | (go_simp; rfl)); intro gb163 hg w101 hbox hb; have n0_ := Aside0.mk (below_step hq_ hb); have n1_ := Aside0.mk (hbox); have n2_ := Aside0.mk ((by rw [hg]; exact (below_size hq_) : w.heap.size ≤ gb163)); have n3_ := Aside0.mk ((by rw [hg]; exact (below_size hq_) : w.heap.size ≤ gb163)); clear HB; have HB := n0_; have BK163 := n1_; have GW163 := n2_; have GE163 := n3_; clear n0_ n1_ n2_ n3_; clear hb hbox hg) | ((with_reducible refine gate_callee (f := 19) rfl ?_); refine goesL_ (some 7) rfl rfl Try.func19 (by kernel_rfl) rfl #[.string (⟨#[108, 111, 103]⟩ : ByteArray)] rfl (by (try simp only [List.map_toArray, List.map_cons, List.map_nil]); first | done | rfl | (simp only [List.length_drop, List.length_take]; rfl)) ?_; (with_reducible refine (version_New.calls (⟨#[108, 111, 103]⟩ : ByteArray) t164 t167 t168 t169 t170 _ A1.out).mono ?_); rintro e w102 ⟨v165, rfl, ho0, hb⟩; refine ⟨_, rfl, ?_⟩; have n0_ := Aside0.mk (Kd.S_lower (Kd.S_newM (M := fun k_ => (w.heap.size ≤ k_)) ho0 (below_size hq_) (fun k_ h_ => h_)) (below_size hq_)); have n1_ := Aside0.mk (blk_below (g := gb163) (o := .cells #[.slice none 0 0, .int .i64 0, .int .i64 0, .string (⟨#[]⟩ : ByteArray)] 24 (0, 0)) bq_ hb); have n2_ := Aside0.mk (below_step hq_ hb); clear BK163; clear HB; have HO166 := n0_; have BK163 := n1_; have HB := n2_; clear n0_ n1_ n2_; (try clear hb); (try clear hb2); (try clear hk); (try clear hi); (try clear ho0)) | ((with_reducible refine gate_dst (N := 2) rfl ?_); (try (refine gate_guard (by rfl) ?_; dsimp only)); refine box_event ?hg (N := 2) ?hd (cs := #[.slice none 0 0, .int .i64 0, .int .i64 0, .string (⟨#[]⟩ : ByteArray)]) (t := 24) ?hr ?_; (case hd => rfl); (case hg => rfl); (case hr => first | (go_simp; done) | (go_simp; rfl)); intro gb171 hg w103 hbox hb; have n0_ := Aside0.mk (Kd.S_below rS_ hb); have n1_ := Aside0.mk (blk_below (g := gb163) (o := .cells #[.slice none 0 0, .int .i64 0, .int .i64 0, .string (⟨#[]⟩ : ByteArray)] 24 (0, 0)) bq_ hb); have n2_ := Aside0.mk (below_step hq_ hb); have n3_ := Aside0.mk (hbox); have n4_ := Aside0.mk ((by rw [hg]; exact (below_size hq_) : w.heap.size ≤ gb171)); have n5_ := Aside0.mk ((by rw [hg]; exact (below_size hq_) : w.heap.size ≤ gb171)); have n6_ := Aside0.mk ((by rw [hg]; exact Nat.ne_of_lt (blk_lt (g := gb163) (o := .cells #[.slice none 0 0, .int .i64 0, .int .i64 0, .string (⟨#[]⟩ : ByteArray)] 24 (0, 0)) bq_) : gb163 ≠ gb171)); have n7_ := Aside0.mk ((by rw [hg]; exact Nat.ne_of_gt (blk_lt (g := gb163) (o := .cells #[.slice none 0 0, .int .i64 0, .int .i64 0, .string (⟨#[]⟩ : ByteArray)] 24 (0, 0)) bq_) : gb171 ≠ gb163)); clear HO166; clear BK163; clear HB; have HO166 := n0_; have BK163 := n1_; have HB := n2_; have BK171 := n3_; have GW171 := n4_; have GE171 := n5_; have NB163_171 := n6_; have NB171_163 := n7_; clear n0_ n1_ n2_ n3_ n4_ n5_ n6_ n7_; clear hb hbox hg; obtain ⟨Ao104, co104, eo104⟩ := Kd.S_slice HO166.out; subst eo104; have hnb105 := NB171_163.out; have hnc105 := NB163_171.out; have hcz106_0 : w103.cell? ⟨gb171, 0, none⟩ = some (.slice none 0 0) := (blk_cell BK171.out 0).trans rfl; have hcz106_1 : w103.cell? ⟨gb171, 1, none⟩ = some (.int .i64 0) := (blk_cell BK171.out 1).trans rfl; have hcz106_2 : w103.cell? ⟨gb171, 2, none⟩ = some (.int .i64 0) := (blk_cell BK171.out 2).trans rfl; have hcz106_3 : w103.cell? ⟨gb171, 3, none⟩ = some (.string (⟨#[]⟩ : ByteArray)) := (blk_cell BK171.out 3).trans rfl; have hfz106_0 := blk_frozen BK171.out 0; have hfz106_1 := blk_frozen BK171.out 1; have hfz106_2 := blk_frozen BK171.out 2; have hfz106_3 := blk_frozen BK171.out 3))
   have n0_ : Aside0 (Kd.S (Kd.slice 32 k32) 27 ((((w103.setCell ⟨gb171, 0, none⟩ (.slice Ao104 t164.length co104)).setCell ⟨gb171, 1, none⟩ (.int .i64 t167)).setCell ⟨gb171, 2, none⟩ (.int .i64 t168)).setCell ⟨gb171, 3, none⟩ (.string t169)) w.heap.size (fun k_ => (w.heap.size ≤ k_)) (.slice Ao104 t164.length co104) t164) := ⟨by (with_reducible repeat (first | apply Kd.S_alloc | apply Kd.S_drewN | apply Kd.S_drew)); exact Kd.S_mono (Kd.S_far (p := ⟨gb171, 3, none⟩) (Kd.S_far (p := ⟨gb171, 2, none⟩) (Kd.S_far (p := ⟨gb171, 1, none⟩) (Kd.S_far (p := ⟨gb171, 0, none⟩) (Kd.S_types HO166.out BK171.out (by decide)) (fun _ hk => hk.2) (.slice Ao104 t164.length co104)) (fun _ hk => hk.2) (.int .i64 t167)) (fun _ hk => hk.2) (.int .i64 t168)) (fun _ hk => hk.2) (.string t169)) (fun _ hk => hk.1.1)⟩
   have n1_ : Aside0 (((((w103.setCell ⟨gb171, 0, none⟩ (.slice Ao104 t164.length co104)).setCell ⟨gb171, 1, none⟩ (.int .i64 t167)).setCell ⟨gb171, 2, none⟩ (.int .i64 t168)).setCell ⟨gb171, 3, none⟩ (.string t169)).heap[gb163]? = some (.cells #[.slice none 0 0, .int .i64 0, .int .i64 0, .string (⟨#[]⟩ : ByteArray)] 24 (0, 0))) := ⟨bf_⟩
   have n2_ : Aside0 (((((w103.setCell ⟨gb171, 0, none⟩ (.slice Ao104 t164.length co104)).setCell ⟨gb171, 1, none⟩ (.int .i64 t167)).setCell ⟨gb171, 2, none⟩ (.int .i64 t168)).setCell ⟨gb171, 3, none⟩ (.string t169)).heap[gb171]? = some (.cells #[.slice Ao104 t164.length co104, .int .i64 t167, .int .i64 t168, .string t169] 24 (0, 0))) := ⟨by (with_reducible repeat (first | refine blk_drewN ?_ _ | refine blk_drew ?_ | refine blk_alloc ?_ _)); refine blk_put (cs := #[.slice Ao104 t164.length co104, .int .i64 t167, .int .i64 t168, .string (⟨#[]⟩ : ByteArray)]) ?_ 3 _ rfl; (with_reducible repeat (first | refine blk_drewN ?_ _ | refine blk_drew ?_ | refine blk_alloc ?_ _)); refine blk_put (cs := #[.slice Ao104 t164.length co104, .int .i64 t167, .int .i64 0, .string (⟨#[]⟩ : ByteArray)]) ?_ 2 _ rfl; (with_reducible repeat (first | refine blk_drewN ?_ _ | refine blk_drew ?_ | refine blk_alloc ?_ _)); refine blk_put (cs := #[.slice Ao104 t164.length co104, .int .i64 0, .int .i64 0, .string (⟨#[]⟩ : ByteArray)]) ?_ 1 _ rfl; (with_reducible repeat (first | refine blk_drewN ?_ _ | refine blk_drew ?_ | refine blk_alloc ?_ _)); refine blk_put (cs := #[.slice none 0 0, .int .i64 0, .int .i64 0, .string (⟨#[]⟩ : ByteArray)]) ?_ 0 _ rfl; (with_reducible repeat (first | refine blk_drewN ?_ _ | refine blk_drew ?_ | refine blk_alloc ?_ _)); exact BK171.out⟩
   have n3_ : Aside0 (Below w.heap.size w ((((w103.setCell ⟨gb171, 0, none⟩ (.slice Ao104 t164.length co104)).setCell ⟨gb171, 1, none⟩ (.int .i64 t167)).setCell ⟨gb171, 2, none⟩ (.int .i64 t168)).setCell ⟨gb171, 3, none⟩ (.string t169))) := ⟨hq_⟩
   (try clear HO166)
   (try clear BK163)
   (try clear BK171)
   (try clear HB)
   generalize ((((w103.setCell ⟨gb171, 0, none⟩ (.slice Ao104 t164.length co104)).setCell ⟨gb171, 1, none⟩ (.int .i64 t167)).setCell ⟨gb171, 2, none⟩ (.int .i64 t168)).setCell ⟨gb171, 3, none⟩ (.string t169)) = w107 at n0_ n1_ n2_ n3_ ⊢
   have HO166 := n0_
   have BK163 := n1_
   have BK171 := n2_
   have HB := n3_
   clear n0_ n1_ n2_ n3_
   obtain ⟨HO166, BK163, BK171, HB⟩ := And.intro (Aside0.mk (Kd.S_drew HO166.out)) (And.intro (Aside0.mk (blk_drew BK163.out)) (And.intro (Aside0.mk (blk_drew BK171.out)) (Aside0.mk (below_drew1 HB.out))))
   refine start_ (n := 8) (S := fun w' => w'.cell? ⟨gb171, 0, none⟩ = some (.slice Ao104 t164.length co104) ∧ w'.cell? ⟨gb171, 1, none⟩ = some (.int .i64 t167) ∧ w'.cell? ⟨gb171, 2, none⟩ = some (.int .i64 t168) ∧ w'.cell? ⟨gb171, 3, none⟩ = some (.string t169)) (ds := [6]) (b_ 8 0) (by kernel_rfl) rfl rfl ⟨(blk_cell BK171.out 0).trans rfl, (blk_cell BK171.out 1).trans rfl, (blk_cell BK171.out 2).trans rfl, (blk_cell BK171.out 3).trans rfl⟩ (fun hHeld => ?_); refine with_tabW millhandlaw16_two.tab2 millhandlaw16_two.bits2 (fun HT_ HW_ => ?_)
   generalize w107.drew = w108 at HO166 BK163 BK171 HB hHeld ⊢
   refine tA_ 0 11 ?_ (b_ 8 1) (take_ofW HT_.out HW_.out (by kernel_rfl)) rfl rfl (fun _ _ _ h => h) (by rfl) ?_ hHeld ?_ ?_ ?_; rotate_left
   · rintro w' ⟨s0, s1, s2, s3⟩; go_simp; with_reducible rfl
   rotate_left
   · simp only [Act.put, sa_, s0_, s1_, i64_w, i32_w]; rfl
   refine one_ (i := 1) (N := some 12) (b_ 8 3) rfl rfl (one_of HT_.out (by kernel_rfl)) (by decide) (fun K hK => ?_)
   refine goes_ Try.func32 (by kernel_rfl) rfl #[.string (⟨#[97]⟩ : ByteArray), .string (⟨#[98]⟩ : ByteArray), .string (⟨#[100]⟩ : ByteArray)] (by rfl) rfl rfl (by (try simp only [List.map_toArray, List.map_cons, List.map_nil]); first | done | rfl | (simp only [List.length_drop, List.length_take]; rfl)) ?_
   with_reducible refine (millhandlaw16_table.calls (⟨#[97]⟩ : ByteArray) (⟨#[98]⟩ : ByteArray) (⟨#[100]⟩ : ByteArray) t172 t173 t174 t175 t176 _ A2.out).mono ?_
   rintro e w109 ⟨rfl, hb⟩
   refine ⟨_, rfl, ?_⟩
   obtain ⟨HO166, BK163, BK171, HB⟩ := And.intro (Aside0.mk (Kd.S_below rS_ hb)) (And.intro (Aside0.mk (blk_below (g := gb163) (o := .cells #[.slice none 0 0, .int .i64 0, .int .i64 0, .string (⟨#[]⟩ : ByteArray)] 24 (0, 0)) bq_ hb)) (And.intro (Aside0.mk (blk_below (g := gb171) (o := .cells #[.slice Ao104 t164.length co104, .int .i64 t167, .int .i64 t168, .string t169] 24 (0, 0)) bq_ hb)) (Aside0.mk (below_step hq_ hb))))
   (try clear hb)
   (try clear hb2)
   (try clear hk)
   (try clear hi)
   refine hK.out _ _ ⟨(blk_cell BK171.out 0).trans rfl, (blk_cell BK171.out 1).trans rfl, (blk_cell BK171.out 2).trans rfl, (blk_cell BK171.out 3).trans rfl⟩ (fun hHeld => ?_)
   clear hK K
   refine norm_ (a' := ?_) ?_ ?_
   rotate_left
   ·
    show Act.put _ (some 12) _ = _
    simp only [Act.put, sa_, s0_, s1_, i64_w, i32_w]
    rfl
   refine one_ (i := 2) (N := some 13) (b_ 8 7) rfl rfl (one_of HT_.out (by kernel_rfl)) (by decide) (fun K hK => ?_)
   refine goes_ Try.func15 (by kernel_rfl) rfl #[.agg #[.slice Ao104 t164.length co104, .int .i64 t167, .int .i64 t168, .string t169], .agg #[.string t172, .int .i64 t173, .int .i64 t174, .string t175, .string t176]] (by rfl) rfl rfl (by (try simp only [List.map_toArray, List.map_cons, List.map_nil]); first | done | rfl | (simp only [List.length_drop, List.length_take]; rfl)) ?_
   with_reducible refine (version_Add.calls k _ _ t164 t167 t168 t169 t172 t173 t174 t175 t176 t177 t180 t181 t182 t183 _ ?side1 ?side2 A3.out).mono ?_
   (case side1 => repeat (first | exact (Kd.S_reads' HO166.out).2.2 | (with_reducible refine Kd.C_alloc ?_ _) | (with_reducible refine Kd.C_drewN ?_ _) | (with_reducible refine Kd.C_drew ?_)))
   (case side2 => exact (Kd.S_reads' HO166.out).2.1)
   rintro e w110 ⟨v178, rfl, ho0, hb⟩
   refine ⟨_, rfl, ?_⟩
   obtain ⟨HO166, HO179, BK163, BK171, HB⟩ := And.intro (Aside0.mk (Kd.S_below rS_ hb)) (And.intro (Aside0.mk (Kd.V_lower (Kd.V_mono (ok' := fun k_ => (w.heap.size ≤ k_) ∧ some k_ ≠ (.slice Ao104 t164.length co104 : Value).ownBlock ∧ k_ ≠ gb163 ∧ k_ ≠ gb171) ho0 (fun k_ hk_ => ⟨(Nat.le_trans (below_size hq_) hk_), (Kd.fresh' (Kd.S_lt rS_) k_ hk_), (Kd.freshB (g := gb163) (o := .cells #[.slice none 0 0, .int .i64 0, .int .i64 0, .string (⟨#[]⟩ : ByteArray)] 24 (0, 0)) bq_ k_ hk_), (Kd.freshB (g := gb171) (o := .cells #[.slice Ao104 t164.length co104, .int .i64 t167, .int .i64 t168, .string t169] 24 (0, 0)) bq_ k_ hk_)⟩)) (below_size hq_))) (And.intro (Aside0.mk (blk_below (g := gb163) (o := .cells #[.slice none 0 0, .int .i64 0, .int .i64 0, .string (⟨#[]⟩ : ByteArray)] 24 (0, 0)) bq_ hb)) (And.intro (Aside0.mk (blk_below (g := gb171) (o := .cells #[.slice Ao104 t164.length co104, .int .i64 t167, .int .i64 t168, .string t169] 24 (0, 0)) bq_ hb)) (Aside0.mk (below_step hq_ hb)))))
   (try clear hb)
   (try clear hb2)
   (try clear hk)
   (try clear hi)
   (try clear ho0)
   obtain ⟨Ao111, co111, eo111⟩ := Kd.V_slice HO179.out
   (first | subst eo111 | (injection eo111 with f1_ f2_ f3_; have f4_ := f1_.symm; have f5_ := f3_.symm; clear f1_ f2_ f3_; subst f4_; subst f5_))
   refine hK.out _ _ ⟨(blk_cell BK171.out 0).trans rfl, (blk_cell BK171.out 1).trans rfl, (blk_cell BK171.out 2).trans rfl, (blk_cell BK171.out 3).trans rfl⟩ (fun hHeld => ?_)
   clear hK K
   refine norm_ (a' := ?_) ?_ ?_
   rotate_left
   ·
    show Act.put _ (some 13) _ = _
    simp only [Act.put, sa_, s0_, s1_, i64_w, i32_w]
    rfl
   refine pA_ 3 10 ?_ (b_ 8 15) (any_of HT_.out (by kernel_rfl)) rfl rfl (fun _ _ _ h => h) (by rfl) ?_ ?_ ?_ ?_; rotate_left
   · intro w'; go_simp; with_reducible rfl
   rotate_left
   · simp only [Act.put, sa_, s0_, s1_, i64_w, i32_w]; rfl
   refine pA_ 4 14 ?_ (b_ 8 31) (any_of HT_.out (by kernel_rfl)) rfl rfl (fun _ _ _ h => h) (by rfl) ?_ ?_ ?_ ?_; rotate_left
   · intro w'; go_simp; with_reducible rfl
   rotate_left
   · simp only [Act.put, sa_, s0_, s1_, i64_w, i32_w]; rfl
   refine pA_ 5 15 ?_ (b_ 8 63) (any_of HT_.out (by kernel_rfl)) rfl rfl (fun _ _ _ h => h) (by rfl) ?_ ?_ ?_ ?_; rotate_left
   · intro w'; go_simp; with_reducible rfl
   rotate_left
   · simp only [Act.put, sa_, s0_, s1_, i64_w, i32_w]; rfl
   refine last_ (i := 6) (N := none) (b_ 8 127) rfl rfl (one_of HT_.out (by kernel_rfl)) (by decide) (fun K hK => ?_)
   have hs112 : w110.cell? ⟨gb171, 0, none⟩ = some (.slice Ao104 t164.length co104) := (blk_cell BK171.out 0).trans rfl
   have hfs112 := blk_frozen BK171.out 0
   have hns112_0 := NB163_171.out
   have hms112_0 := NB171_163.out
   have hs113 : w110.cell? ⟨gb171, 1, none⟩ = some (.int .i64 t167) := (blk_cell BK171.out 1).trans rfl
   have hfs113 := blk_frozen BK171.out 1
   have hns113_0 := NB163_171.out
   have hms113_0 := NB171_163.out
   have hs114 : w110.cell? ⟨gb171, 2, none⟩ = some (.int .i64 t168) := (blk_cell BK171.out 2).trans rfl
   have hfs114 := blk_frozen BK171.out 2
   have hns114_0 := NB163_171.out
   have hms114_0 := NB171_163.out
   have hs115 : w110.cell? ⟨gb171, 3, none⟩ = some (.string t169) := (blk_cell BK171.out 3).trans rfl
   have hfs115 := blk_frozen BK171.out 3
   have hns115_0 := NB163_171.out
   have hms115_0 := NB171_163.out
   refine skip_ (w1 := ?_) (by rfl) rfl ?_ ?_; rotate_left
   · go_simp; rfl
   refine hK.out _ _ ?_
   clear hK K
   refine pA_ 7 4 ?_ (b_ 8 255) (any_of HT_.out (by kernel_rfl)) rfl rfl (fun _ _ _ h => h) (by rfl) ?_ ?_ ?_ ?_; rotate_left
   · intro w'; go_simp; with_reducible rfl
   rotate_left
   · simp only [Act.put, sa_, s0_, s1_, i64_w, i32_w]; rfl
   refine done_ (done_of HT_.out (by kernel_rfl)) ?_
   try go_wp2
   have n0_ : Aside0 (Kd.S (Kd.slice 32 k32) 27 ((((w110.setCell ⟨gb171, 0, none⟩ (.slice Ao111 t177.length co111)).setCell ⟨gb171, 1, none⟩ (.int .i64 t180)).setCell ⟨gb171, 2, none⟩ (.int .i64 t181)).setCell ⟨gb171, 3, none⟩ (.string t182)) w.heap.size (fun k_ => (w.heap.size ≤ k_)) (.slice Ao104 t164.length co104) t164) := ⟨by (with_reducible repeat (first | apply Kd.S_alloc | apply Kd.S_drewN | apply Kd.S_drew)); exact Kd.S_mono (Kd.S_far (p := ⟨gb171, 3, none⟩) (Kd.S_far (p := ⟨gb171, 2, none⟩) (Kd.S_far (p := ⟨gb171, 1, none⟩) (Kd.S_far (p := ⟨gb171, 0, none⟩) (Kd.S_types HO166.out BK171.out (by decide)) (fun _ hk => hk.2) (.slice Ao111 t177.length co111)) (fun _ hk => hk.2) (.int .i64 t180)) (fun _ hk => hk.2) (.int .i64 t181)) (fun _ hk => hk.2) (.string t182)) (fun _ hk => hk.1)⟩
   have n1_ : Aside0 (Kd.V (Kd.slice 32 k32) 27 ((((w110.setCell ⟨gb171, 0, none⟩ (.slice Ao111 t177.length co111)).setCell ⟨gb171, 1, none⟩ (.int .i64 t180)).setCell ⟨gb171, 2, none⟩ (.int .i64 t181)).setCell ⟨gb171, 3, none⟩ (.string t182)) w.heap.size (fun k_ => (w.heap.size ≤ k_) ∧ some k_ ≠ (.slice Ao104 t164.length co104 : Value).ownBlock ∧ k_ ≠ gb163 ∧ k_ ≠ gb171) (.slice Ao111 t177.length co111) t177) := ⟨by (with_reducible repeat (first | apply Kd.V_alloc | apply Kd.V_drewN | apply Kd.V_drew)); exact Kd.V_mono (Kd.V_far (p := ⟨gb171, 3, none⟩) (Kd.V_far (p := ⟨gb171, 2, none⟩) (Kd.V_far (p := ⟨gb171, 1, none⟩) (Kd.V_far (p := ⟨gb171, 0, none⟩) (Kd.V_mono HO179.out (fun k_ hk => (⟨hk, hk.2.2.2⟩ : _ ∧ k_ ≠ gb171))) (fun _ hk => hk.2) (.slice Ao111 t177.length co111)) (fun _ hk => hk.2) (.int .i64 t180)) (fun _ hk => hk.2) (.int .i64 t181)) (fun _ hk => hk.2) (.string t182)) (fun _ hk => ⟨hk.1.1, ⟨hk.1.2.1, ⟨hk.1.2.2.1, hk.1.2.2.2⟩⟩⟩)⟩
   have n2_ : Aside0 (((((w110.setCell ⟨gb171, 0, none⟩ (.slice Ao111 t177.length co111)).setCell ⟨gb171, 1, none⟩ (.int .i64 t180)).setCell ⟨gb171, 2, none⟩ (.int .i64 t181)).setCell ⟨gb171, 3, none⟩ (.string t182)).heap[gb163]? = some (.cells #[.slice none 0 0, .int .i64 0, .int .i64 0, .string (⟨#[]⟩ : ByteArray)] 24 (0, 0))) := ⟨bf_⟩
   have n3_ : Aside0 (((((w110.setCell ⟨gb171, 0, none⟩ (.slice Ao111 t177.length co111)).setCell ⟨gb171, 1, none⟩ (.int .i64 t180)).setCell ⟨gb171, 2, none⟩ (.int .i64 t181)).setCell ⟨gb171, 3, none⟩ (.string t182)).heap[gb171]? = some (.cells #[.slice Ao111 t177.length co111, .int .i64 t180, .int .i64 t181, .string t182] 24 (0, 0))) := ⟨by (with_reducible repeat (first | refine blk_drewN ?_ _ | refine blk_drew ?_ | refine blk_alloc ?_ _)); refine blk_put (cs := #[.slice Ao111 t177.length co111, .int .i64 t180, .int .i64 t181, .string t169]) ?_ 3 _ rfl; (with_reducible repeat (first | refine blk_drewN ?_ _ | refine blk_drew ?_ | refine blk_alloc ?_ _)); refine blk_put (cs := #[.slice Ao111 t177.length co111, .int .i64 t180, .int .i64 t168, .string t169]) ?_ 2 _ rfl; (with_reducible repeat (first | refine blk_drewN ?_ _ | refine blk_drew ?_ | refine blk_alloc ?_ _)); refine blk_put (cs := #[.slice Ao111 t177.length co111, .int .i64 t167, .int .i64 t168, .string t169]) ?_ 1 _ rfl; (with_reducible repeat (first | refine blk_drewN ?_ _ | refine blk_drew ?_ | refine blk_alloc ?_ _)); refine blk_put (cs := #[.slice Ao104 t164.length co104, .int .i64 t167, .int .i64 t168, .string t169]) ?_ 0 _ rfl; (with_reducible repeat (first | refine blk_drewN ?_ _ | refine blk_drew ?_ | refine blk_alloc ?_ _)); exact BK171.out⟩
   have n4_ : Aside0 (Below w.heap.size w ((((w110.setCell ⟨gb171, 0, none⟩ (.slice Ao111 t177.length co111)).setCell ⟨gb171, 1, none⟩ (.int .i64 t180)).setCell ⟨gb171, 2, none⟩ (.int .i64 t181)).setCell ⟨gb171, 3, none⟩ (.string t182))) := ⟨hq_⟩
   (try clear HO166)
   (try clear HO179)
   (try clear BK163)
   (try clear BK171)
   (try clear HB)
   generalize ((((w110.setCell ⟨gb171, 0, none⟩ (.slice Ao111 t177.length co111)).setCell ⟨gb171, 1, none⟩ (.int .i64 t180)).setCell ⟨gb171, 2, none⟩ (.int .i64 t181)).setCell ⟨gb171, 3, none⟩ (.string t182)) = w116 at n0_ n1_ n2_ n3_ n4_ ⊢
   have HO166 := n0_
   have HO179 := n1_
   have BK163 := n2_
   have BK171 := n3_
   have HB := n4_
   clear n0_ n1_ n2_ n3_ n4_
   obtain ⟨HO166, HO179, BK163, BK171, HB⟩ := And.intro (Aside0.mk (Kd.S_drew HO166.out)) (And.intro (Aside0.mk (Kd.V_drew HO179.out)) (And.intro (Aside0.mk (blk_drew BK163.out)) (And.intro (Aside0.mk (blk_drew BK171.out)) (Aside0.mk (below_drew1 HB.out)))))
   refine start_ (n := 8) (S := fun w' => w'.cell? ⟨gb171, 0, none⟩ = some (.slice Ao111 t177.length co111) ∧ w'.cell? ⟨gb171, 1, none⟩ = some (.int .i64 t180) ∧ w'.cell? ⟨gb171, 2, none⟩ = some (.int .i64 t181) ∧ w'.cell? ⟨gb171, 3, none⟩ = some (.string t182)) (ds := [6]) (b_ 8 0) (by kernel_rfl) rfl rfl ⟨(blk_cell BK171.out 0).trans rfl, (blk_cell BK171.out 1).trans rfl, (blk_cell BK171.out 2).trans rfl, (blk_cell BK171.out 3).trans rfl⟩ (fun hHeld => ?_); refine with_tabW millhandlaw16_two.tab3 millhandlaw16_two.bits3 (fun HT_ HW_ => ?_)
   generalize w116.drew = w117 at HO166 HO179 BK163 BK171 HB hHeld ⊢
   refine tA_ 0 17 ?_ (b_ 8 1) (take_ofW HT_.out HW_.out (by kernel_rfl)) rfl rfl (fun _ _ _ h => h) (by rfl) ?_ hHeld ?_ ?_ ?_; rotate_left
   · rintro w' ⟨s0, s1, s2, s3⟩; go_simp; with_reducible rfl
   rotate_left
   · simp only [Act.put, sa_, s0_, s1_, i64_w, i32_w]; rfl
   refine one_ (i := 1) (N := some 18) (b_ 8 3) rfl rfl (one_of HT_.out (by kernel_rfl)) (by decide) (fun K hK => ?_)
   refine goes_ Try.func32 (by kernel_rfl) rfl #[.string (⟨#[98]⟩ : ByteArray), .string (⟨#[99]⟩ : ByteArray), .string (⟨#[102]⟩ : ByteArray)] (by rfl) rfl rfl (by (try simp only [List.map_toArray, List.map_cons, List.map_nil]); first | done | rfl | (simp only [List.length_drop, List.length_take]; rfl)) ?_
   with_reducible refine (millhandlaw16_table.calls (⟨#[98]⟩ : ByteArray) (⟨#[99]⟩ : ByteArray) (⟨#[102]⟩ : ByteArray) t184 t185 t186 t187 t188 _ A4.out).mono ?_
   rintro e w118 ⟨rfl, hb⟩
   refine ⟨_, rfl, ?_⟩
   obtain ⟨HO166, HO179, BK163, BK171, HB⟩ := And.intro (Aside0.mk (Kd.S_below rS_ hb)) (And.intro (Aside0.mk (Kd.V_below rV_ hb)) (And.intro (Aside0.mk (blk_below (g := gb163) (o := .cells #[.slice none 0 0, .int .i64 0, .int .i64 0, .string (⟨#[]⟩ : ByteArray)] 24 (0, 0)) bq_ hb)) (And.intro (Aside0.mk (blk_below (g := gb171) (o := .cells #[.slice Ao111 t177.length co111, .int .i64 t180, .int .i64 t181, .string t182] 24 (0, 0)) bq_ hb)) (Aside0.mk (below_step hq_ hb)))))
   (try clear hb)
   (try clear hb2)
   (try clear hk)
   (try clear hi)
   refine hK.out _ _ ⟨(blk_cell BK171.out 0).trans rfl, (blk_cell BK171.out 1).trans rfl, (blk_cell BK171.out 2).trans rfl, (blk_cell BK171.out 3).trans rfl⟩ (fun hHeld => ?_)
   clear hK K
   refine norm_ (a' := ?_) ?_ ?_
   rotate_left
   ·
    show Act.put _ (some 18) _ = _
    simp only [Act.put, sa_, s0_, s1_, i64_w, i32_w]
    rfl
   refine one_ (i := 2) (N := some 19) (b_ 8 7) rfl rfl (one_of HT_.out (by kernel_rfl)) (by decide) (fun K hK => ?_)
   refine goes_ Try.func15 (by kernel_rfl) rfl #[.agg #[.slice Ao111 t177.length co111, .int .i64 t180, .int .i64 t181, .string t182], .agg #[.string t184, .int .i64 t185, .int .i64 t186, .string t187, .string t188]] (by rfl) rfl rfl (by (try simp only [List.map_toArray, List.map_cons, List.map_nil]); first | done | rfl | (simp only [List.length_drop, List.length_take]; rfl)) ?_
   with_reducible refine (version_Add.calls k _ _ t177 t180 t181 t182 t184 t185 t186 t187 t188 t189 t192 t193 t194 t195 _ ?side1 ?side2 A5.out).mono ?_
   (case side1 => repeat (first | exact (Kd.V_reads' HO179.out).2.2 | (with_reducible refine Kd.C_alloc ?_ _) | (with_reducible refine Kd.C_drewN ?_ _) | (with_reducible refine Kd.C_drew ?_)))
   (case side2 => exact (Kd.V_reads' HO179.out).2.1)
   rintro e w119 ⟨v190, rfl, ho0, hb⟩
   refine ⟨_, rfl, ?_⟩
   obtain ⟨HO166, HO179, HO191, BK163, BK171, HB⟩ := And.intro (Aside0.mk (Kd.S_below rS_ hb)) (And.intro (Aside0.mk (Kd.V_below rV_ hb)) (And.intro (Aside0.mk (Kd.V_lower (Kd.V_mono (ok' := fun k_ => (w.heap.size ≤ k_) ∧ some k_ ≠ (.slice Ao104 t164.length co104 : Value).ownBlock ∧ k_ ≠ gb163 ∧ k_ ≠ gb171) ho0 (fun k_ hk_ => ⟨(Nat.le_trans (below_size hq_) hk_), (Kd.fresh' (Kd.S_lt rS_) k_ hk_), (Kd.freshB (g := gb163) (o := .cells #[.slice none 0 0, .int .i64 0, .int .i64 0, .string (⟨#[]⟩ : ByteArray)] 24 (0, 0)) bq_ k_ hk_), (Kd.freshB (g := gb171) (o := .cells #[.slice Ao111 t177.length co111, .int .i64 t180, .int .i64 t181, .string t182] 24 (0, 0)) bq_ k_ hk_)⟩)) (below_size hq_))) (And.intro (Aside0.mk (blk_below (g := gb163) (o := .cells #[.slice none 0 0, .int .i64 0, .int .i64 0, .string (⟨#[]⟩ : ByteArray)] 24 (0, 0)) bq_ hb)) (And.intro (Aside0.mk (blk_below (g := gb171) (o := .cells #[.slice Ao111 t177.length co111, .int .i64 t180, .int .i64 t181, .string t182] 24 (0, 0)) bq_ hb)) (Aside0.mk (below_step hq_ hb))))))
   (try clear hb)
   (try clear hb2)
   (try clear hk)
   (try clear hi)
   (try clear ho0)
   obtain ⟨Ao120, co120, eo120⟩ := Kd.V_slice HO191.out
   (first | subst eo120 | (injection eo120 with f1_ f2_ f3_; have f4_ := f1_.symm; have f5_ := f3_.symm; clear f1_ f2_ f3_; subst f4_; subst f5_))
   refine hK.out _ _ ⟨(blk_cell BK171.out 0).trans rfl, (blk_cell BK171.out 1).trans rfl, (blk_cell BK171.out 2).trans rfl, (blk_cell BK171.out 3).trans rfl⟩ (fun hHeld => ?_)
   clear hK K
   refine norm_ (a' := ?_) ?_ ?_
   rotate_left
   ·
    show Act.put _ (some 19) _ = _
    simp only [Act.put, sa_, s0_, s1_, i64_w, i32_w]
    rfl
   refine pA_ 3 16 ?_ (b_ 8 15) (any_of HT_.out (by kernel_rfl)) rfl rfl (fun _ _ _ h => h) (by rfl) ?_ ?_ ?_ ?_; rotate_left
   · intro w'; go_simp; with_reducible rfl
   rotate_left
   · simp only [Act.put, sa_, s0_, s1_, i64_w, i32_w]; rfl
   refine pA_ 4 20 ?_ (b_ 8 31) (any_of HT_.out (by kernel_rfl)) rfl rfl (fun _ _ _ h => h) (by rfl) ?_ ?_ ?_ ?_; rotate_left
   · intro w'; go_simp; with_reducible rfl
   rotate_left
   · simp only [Act.put, sa_, s0_, s1_, i64_w, i32_w]; rfl
   refine pA_ 5 21 ?_ (b_ 8 63) (any_of HT_.out (by kernel_rfl)) rfl rfl (fun _ _ _ h => h) (by rfl) ?_ ?_ ?_ ?_; rotate_left
   · intro w'; go_simp; with_reducible rfl
   rotate_left
   · simp only [Act.put, sa_, s0_, s1_, i64_w, i32_w]; rfl
   refine last_ (i := 6) (N := none) (b_ 8 127) rfl rfl (one_of HT_.out (by kernel_rfl)) (by decide) (fun K hK => ?_)
   have hs121 : w119.cell? ⟨gb171, 0, none⟩ = some (.slice Ao111 t177.length co111) := (blk_cell BK171.out 0).trans rfl
   have hfs121 := blk_frozen BK171.out 0
   have hns121_0 := NB163_171.out
   have hms121_0 := NB171_163.out
   have hs122 : w119.cell? ⟨gb171, 1, none⟩ = some (.int .i64 t180) := (blk_cell BK171.out 1).trans rfl
   have hfs122 := blk_frozen BK171.out 1
   have hns122_0 := NB163_171.out
   have hms122_0 := NB171_163.out
   have hs123 : w119.cell? ⟨gb171, 2, none⟩ = some (.int .i64 t181) := (blk_cell BK171.out 2).trans rfl
   have hfs123 := blk_frozen BK171.out 2
   have hns123_0 := NB163_171.out
   have hms123_0 := NB171_163.out
   have hs124 : w119.cell? ⟨gb171, 3, none⟩ = some (.string t182) := (blk_cell BK171.out 3).trans rfl
   have hfs124 := blk_frozen BK171.out 3
   have hns124_0 := NB163_171.out
   have hms124_0 := NB171_163.out
   refine skip_ (w1 := ?_) (by rfl) rfl ?_ ?_; rotate_left
   · go_simp; rfl
   refine hK.out _ _ ?_
   clear hK K
   refine pA_ 7 5 ?_ (b_ 8 255) (any_of HT_.out (by kernel_rfl)) rfl rfl (fun _ _ _ h => h) (by rfl) ?_ ?_ ?_ ?_; rotate_left
   · intro w'; go_simp; with_reducible rfl
   rotate_left
   · simp only [Act.put, sa_, s0_, s1_, i64_w, i32_w]; rfl
   refine done_ (done_of HT_.out (by kernel_rfl)) ?_
   try go_wp2
   have n0_ : Aside0 (Kd.S (Kd.slice 32 k32) 27 ((((w119.setCell ⟨gb171, 0, none⟩ (.slice Ao120 t189.length co120)).setCell ⟨gb171, 1, none⟩ (.int .i64 t192)).setCell ⟨gb171, 2, none⟩ (.int .i64 t193)).setCell ⟨gb171, 3, none⟩ (.string t194)) w.heap.size (fun k_ => (w.heap.size ≤ k_)) (.slice Ao104 t164.length co104) t164) := ⟨by (with_reducible repeat (first | apply Kd.S_alloc | apply Kd.S_drewN | apply Kd.S_drew)); exact Kd.S_mono (Kd.S_far (p := ⟨gb171, 3, none⟩) (Kd.S_far (p := ⟨gb171, 2, none⟩) (Kd.S_far (p := ⟨gb171, 1, none⟩) (Kd.S_far (p := ⟨gb171, 0, none⟩) (Kd.S_types HO166.out BK171.out (by decide)) (fun _ hk => hk.2) (.slice Ao120 t189.length co120)) (fun _ hk => hk.2) (.int .i64 t192)) (fun _ hk => hk.2) (.int .i64 t193)) (fun _ hk => hk.2) (.string t194)) (fun _ hk => hk.1)⟩
   have n1_ : Aside0 (Kd.V (Kd.slice 32 k32) 27 ((((w119.setCell ⟨gb171, 0, none⟩ (.slice Ao120 t189.length co120)).setCell ⟨gb171, 1, none⟩ (.int .i64 t192)).setCell ⟨gb171, 2, none⟩ (.int .i64 t193)).setCell ⟨gb171, 3, none⟩ (.string t194)) w.heap.size (fun k_ => (w.heap.size ≤ k_) ∧ some k_ ≠ (.slice Ao104 t164.length co104 : Value).ownBlock ∧ k_ ≠ gb163 ∧ k_ ≠ gb171) (.slice Ao111 t177.length co111) t177) := ⟨by (with_reducible repeat (first | apply Kd.V_alloc | apply Kd.V_drewN | apply Kd.V_drew)); exact Kd.V_mono (Kd.V_far (p := ⟨gb171, 3, none⟩) (Kd.V_far (p := ⟨gb171, 2, none⟩) (Kd.V_far (p := ⟨gb171, 1, none⟩) (Kd.V_far (p := ⟨gb171, 0, none⟩) (Kd.V_mono HO179.out (fun k_ hk => (⟨hk, hk.2.2.2⟩ : _ ∧ k_ ≠ gb171))) (fun _ hk => hk.2) (.slice Ao120 t189.length co120)) (fun _ hk => hk.2) (.int .i64 t192)) (fun _ hk => hk.2) (.int .i64 t193)) (fun _ hk => hk.2) (.string t194)) (fun _ hk => ⟨hk.1.1, ⟨hk.1.2.1, ⟨hk.1.2.2.1, hk.1.2.2.2⟩⟩⟩)⟩
   have n2_ : Aside0 (Kd.V (Kd.slice 32 k32) 27 ((((w119.setCell ⟨gb171, 0, none⟩ (.slice Ao120 t189.length co120)).setCell ⟨gb171, 1, none⟩ (.int .i64 t192)).setCell ⟨gb171, 2, none⟩ (.int .i64 t193)).setCell ⟨gb171, 3, none⟩ (.string t194)) w.heap.size (fun k_ => (w.heap.size ≤ k_) ∧ some k_ ≠ (.slice Ao104 t164.length co104 : Value).ownBlock ∧ k_ ≠ gb163 ∧ k_ ≠ gb171) (.slice Ao120 t189.length co120) t189) := ⟨by (with_reducible repeat (first | apply Kd.V_alloc | apply Kd.V_drewN | apply Kd.V_drew)); exact Kd.V_mono (Kd.V_far (p := ⟨gb171, 3, none⟩) (Kd.V_far (p := ⟨gb171, 2, none⟩) (Kd.V_far (p := ⟨gb171, 1, none⟩) (Kd.V_far (p := ⟨gb171, 0, none⟩) (Kd.V_mono HO191.out (fun k_ hk => (⟨hk, hk.2.2.2⟩ : _ ∧ k_ ≠ gb171))) (fun _ hk => hk.2) (.slice Ao120 t189.length co120)) (fun _ hk => hk.2) (.int .i64 t192)) (fun _ hk => hk.2) (.int .i64 t193)) (fun _ hk => hk.2) (.string t194)) (fun _ hk => ⟨hk.1.1, ⟨hk.1.2.1, ⟨hk.1.2.2.1, hk.1.2.2.2⟩⟩⟩)⟩
   have n3_ : Aside0 (((((w119.setCell ⟨gb171, 0, none⟩ (.slice Ao120 t189.length co120)).setCell ⟨gb171, 1, none⟩ (.int .i64 t192)).setCell ⟨gb171, 2, none⟩ (.int .i64 t193)).setCell ⟨gb171, 3, none⟩ (.string t194)).heap[gb163]? = some (.cells #[.slice none 0 0, .int .i64 0, .int .i64 0, .string (⟨#[]⟩ : ByteArray)] 24 (0, 0))) := ⟨bf_⟩
   have n4_ : Aside0 (((((w119.setCell ⟨gb171, 0, none⟩ (.slice Ao120 t189.length co120)).setCell ⟨gb171, 1, none⟩ (.int .i64 t192)).setCell ⟨gb171, 2, none⟩ (.int .i64 t193)).setCell ⟨gb171, 3, none⟩ (.string t194)).heap[gb171]? = some (.cells #[.slice Ao120 t189.length co120, .int .i64 t192, .int .i64 t193, .string t194] 24 (0, 0))) := ⟨by (with_reducible repeat (first | refine blk_drewN ?_ _ | refine blk_drew ?_ | refine blk_alloc ?_ _)); refine blk_put (cs := #[.slice Ao120 t189.length co120, .int .i64 t192, .int .i64 t193, .string t182]) ?_ 3 _ rfl; (with_reducible repeat (first | refine blk_drewN ?_ _ | refine blk_drew ?_ | refine blk_alloc ?_ _)); refine blk_put (cs := #[.slice Ao120 t189.length co120, .int .i64 t192, .int .i64 t181, .string t182]) ?_ 2 _ rfl; (with_reducible repeat (first | refine blk_drewN ?_ _ | refine blk_drew ?_ | refine blk_alloc ?_ _)); refine blk_put (cs := #[.slice Ao120 t189.length co120, .int .i64 t180, .int .i64 t181, .string t182]) ?_ 1 _ rfl; (with_reducible repeat (first | refine blk_drewN ?_ _ | refine blk_drew ?_ | refine blk_alloc ?_ _)); refine blk_put (cs := #[.slice Ao111 t177.length co111, .int .i64 t180, .int .i64 t181, .string t182]) ?_ 0 _ rfl; (with_reducible repeat (first | refine blk_drewN ?_ _ | refine blk_drew ?_ | refine blk_alloc ?_ _)); exact BK171.out⟩
   have n5_ : Aside0 (Below w.heap.size w ((((w119.setCell ⟨gb171, 0, none⟩ (.slice Ao120 t189.length co120)).setCell ⟨gb171, 1, none⟩ (.int .i64 t192)).setCell ⟨gb171, 2, none⟩ (.int .i64 t193)).setCell ⟨gb171, 3, none⟩ (.string t194))) := ⟨hq_⟩
   (try clear HO166)
   (try clear HO179)
   (try clear HO191)
   (try clear BK163)
   (try clear BK171)
   (try clear HB)
   generalize ((((w119.setCell ⟨gb171, 0, none⟩ (.slice Ao120 t189.length co120)).setCell ⟨gb171, 1, none⟩ (.int .i64 t192)).setCell ⟨gb171, 2, none⟩ (.int .i64 t193)).setCell ⟨gb171, 3, none⟩ (.string t194)) = w125 at n0_ n1_ n2_ n3_ n4_ n5_ ⊢
   have HO166 := n0_
   have HO179 := n1_
   have HO191 := n2_
   have BK163 := n3_
   have BK171 := n4_
   have HB := n5_
   clear n0_ n1_ n2_ n3_ n4_ n5_
   obtain ⟨HO166, HO179, HO191, BK163, BK171, HB⟩ := And.intro (Aside0.mk (Kd.S_drew HO166.out)) (And.intro (Aside0.mk (Kd.V_drew HO179.out)) (And.intro (Aside0.mk (Kd.V_drew HO191.out)) (And.intro (Aside0.mk (blk_drew BK163.out)) (And.intro (Aside0.mk (blk_drew BK171.out)) (Aside0.mk (below_drew1 HB.out))))))
   refine start_ (n := 27) (S := fun w' => w'.cell? ⟨gb171, 0, none⟩ = some (.slice Ao120 t189.length co120) ∧ w'.cell? ⟨gb171, 1, none⟩ = some (.int .i64 t192) ∧ w'.cell? ⟨gb171, 2, none⟩ = some (.int .i64 t193) ∧ w'.cell? ⟨gb171, 3, none⟩ = some (.string t194)) (ds := []) (b_ 27 0) (by kernel_rfl) rfl rfl ⟨(blk_cell BK171.out 0).trans rfl, (blk_cell BK171.out 1).trans rfl, (blk_cell BK171.out 2).trans rfl, (blk_cell BK171.out 3).trans rfl⟩ (fun hHeld => ?_); refine with_tabW millhandlaw16_two.tab4 millhandlaw16_two.bits4 (fun HT_ HW_ => ?_)
   generalize w125.drew = w126 at HO166 HO179 HO191 BK163 BK171 HB hHeld ⊢
   refine pA_ 1 23 ?_ (b_ 27 2) (any_of HT_.out (by kernel_rfl)) rfl rfl (fun _ _ _ h => h) (by rfl) ?_ ?_ ?_ ?_; rotate_left
   · intro w'; go_simp; with_reducible rfl
   rotate_left
   · simp only [Act.put, sa_, s0_, s1_, i64_w, i32_w]; rfl
   refine pA_ 2 24 ?_ (b_ 27 6) (any_of HT_.out (by kernel_rfl)) rfl rfl (fun _ _ _ h => h) (by rfl) ?_ ?_ ?_ ?_; rotate_left
   · intro w'; go_simp; with_reducible rfl
   rotate_left
   · simp only [Act.put, sa_, s0_, s1_, i64_w, i32_w]; rfl
   refine pA_ 3 25 ?_ (b_ 27 14) (any_of HT_.out (by kernel_rfl)) rfl rfl (fun _ _ _ h => h) (by rfl) ?_ ?_ ?_ ?_; rotate_left
   · intro w'; go_simp; with_reducible rfl
   rotate_left
   · simp only [Act.put, sa_, s0_, s1_, i64_w, i32_w]; rfl
   refine pA_ 4 26 ?_ (b_ 27 30) (any_of HT_.out (by kernel_rfl)) rfl rfl (fun _ _ _ h => h) (by rfl) ?_ ?_ ?_ ?_; rotate_left
   · intro w'; go_simp; with_reducible rfl
   rotate_left
   · simp only [Act.put, sa_, s0_, s1_, i64_w, i32_w]; rfl
   refine pA_ 5 27 ?_ (b_ 27 62) (any_of HT_.out (by kernel_rfl)) rfl rfl (fun _ _ _ h => h) (by rfl) ?_ ?_ ?_ ?_; rotate_left
   · intro w'; go_simp; with_reducible rfl
   rotate_left
   · simp only [Act.put, sa_, s0_, s1_, i64_w, i32_w]; rfl
   refine pA_ 6 28 ?_ (b_ 27 126) (any_of HT_.out (by kernel_rfl)) rfl rfl (fun _ _ _ h => h) (by rfl) ?_ ?_ ?_ ?_; rotate_left
   · intro w'; go_simp; with_reducible rfl
   rotate_left
   · simp only [Act.put, sa_, s0_, s1_, i64_w, i32_w]; rfl
   refine pA_ 7 29 ?_ (b_ 27 254) (any_of HT_.out (by kernel_rfl)) rfl rfl (fun _ _ _ h => h) (by rfl) ?_ ?_ ?_ ?_; rotate_left
   · intro w'; go_simp; with_reducible rfl
   rotate_left
   · simp only [Act.put, sa_, s0_, s1_, i64_w, i32_w]; rfl
   refine pB_ 8 30 ?_ (b_ 27 510) (any_of HT_.out (by kernel_rfl)) rfl rfl (fun _ _ _ h => h) (by rfl) ?_ ?_; rotate_left
   · simp only [Act.put, sa_, s0_, s1_, i64_w, i32_w]; rfl
   refine pB_ 9 31 ?_ (b_ 27 1022) (any_of HT_.out (by kernel_rfl)) rfl rfl (fun _ _ _ h => h) (by rfl) ?_ ?_; rotate_left
   · simp only [Act.put, sa_, s0_, s1_, i64_w, i32_w]; rfl
   refine pA_ 10 32 ?_ (b_ 27 2046) (any_of HT_.out (by kernel_rfl)) rfl rfl (fun _ _ _ h => h) (by rfl) ?_ ?_ ?_ ?_; rotate_left
   · intro w'; go_simp; with_reducible rfl
   rotate_left
   · simp only [Act.put, sa_, s0_, s1_, i64_w, i32_w]; rfl
   refine pA_ 11 33 ?_ (b_ 27 4094) (any_of HT_.out (by kernel_rfl)) rfl rfl (fun _ _ _ h => h) (by rfl) ?_ ?_ ?_ ?_; rotate_left
   · intro w'; go_simp; with_reducible rfl
   rotate_left
   · simp only [Act.put, sa_, s0_, s1_, i64_w, i32_w]; rfl
   refine pB_ 12 34 ?_ (b_ 27 8190) (any_of HT_.out (by kernel_rfl)) rfl rfl (fun _ _ _ h => h) (by rfl) ?_ ?_; rotate_left
   · simp only [Act.put, sa_, s0_, s1_, i64_w, i32_w]; rfl
   refine pB_ 13 35 ?_ (b_ 27 16382) (any_of HT_.out (by kernel_rfl)) rfl rfl (fun _ _ _ h => h) (by rfl) ?_ ?_; rotate_left
   · simp only [Act.put, sa_, s0_, s1_, i64_w, i32_w]; rfl
   refine pB_ 14 36 ?_ (b_ 27 32766) (any_of HT_.out (by kernel_rfl)) rfl rfl (fun _ _ _ h => h) (by rfl) ?_ ?_; rotate_left
   · simp only [Act.put, sa_, s0_, s1_, i64_w, i32_w]; rfl
   refine pB_ 15 37 ?_ (b_ 27 65534) (any_of HT_.out (by kernel_rfl)) rfl rfl (fun _ _ _ h => h) (by rfl) ?_ ?_; rotate_left
   · simp only [Act.put, sa_, s0_, s1_, i64_w, i32_w]; rfl
   refine pA_ 16 38 ?_ (b_ 27 131070) (any_of HT_.out (by kernel_rfl)) rfl rfl (fun _ _ _ h => h) (by rfl) ?_ ?_ ?_ ?_; rotate_left
   · intro w'; go_simp; with_reducible rfl
   rotate_left
   · simp only [Act.put, sa_, s0_, s1_, i64_w, i32_w]; rfl
   refine pA_ 17 39 ?_ (b_ 27 262142) (any_of HT_.out (by kernel_rfl)) rfl rfl (fun _ _ _ h => h) (by rfl) ?_ ?_ ?_ ?_; rotate_left
   · intro w'; go_simp; with_reducible rfl
   rotate_left
   · simp only [Act.put, sa_, s0_, s1_, i64_w, i32_w]; rfl
   refine pB_ 18 40 ?_ (b_ 27 524286) (any_of HT_.out (by kernel_rfl)) rfl rfl (fun _ _ _ h => h) (by rfl) ?_ ?_; rotate_left
   · simp only [Act.put, sa_, s0_, s1_, i64_w, i32_w]; rfl
   refine pB_ 19 41 ?_ (b_ 27 1048574) (any_of HT_.out (by kernel_rfl)) rfl rfl (fun _ _ _ h => h) (by rfl) ?_ ?_; rotate_left
   · simp only [Act.put, sa_, s0_, s1_, i64_w, i32_w]; rfl
   refine pB_ 20 42 ?_ (b_ 27 2097150) (any_of HT_.out (by kernel_rfl)) rfl rfl (fun _ _ _ h => h) (by rfl) ?_ ?_; rotate_left
   · simp only [Act.put, sa_, s0_, s1_, i64_w, i32_w]; rfl
   refine pB_ 21 43 ?_ (b_ 27 4194302) (any_of HT_.out (by kernel_rfl)) rfl rfl (fun _ _ _ h => h) (by rfl) ?_ ?_; rotate_left
   · simp only [Act.put, sa_, s0_, s1_, i64_w, i32_w]; rfl
   refine pB_ 22 44 ?_ (b_ 27 8388606) (any_of HT_.out (by kernel_rfl)) rfl rfl (fun _ _ _ h => h) (by rfl) ?_ ?_; rotate_left
   · simp only [Act.put, sa_, s0_, s1_, i64_w, i32_w]; rfl
   refine pB_ 23 45 ?_ (b_ 27 16777214) (any_of HT_.out (by kernel_rfl)) rfl rfl (fun _ _ _ h => h) (by rfl) ?_ ?_; rotate_left
   · simp only [Act.put, sa_, s0_, s1_, i64_w, i32_w]; rfl
   refine pA_ 24 46 ?_ (b_ 27 33554430) (any_of HT_.out (by kernel_rfl)) rfl rfl (fun _ _ _ h => h) (by rfl) ?_ ?_ ?_ ?_; rotate_left
   · intro w'; go_simp; with_reducible rfl
   rotate_left
   · simp only [Act.put, sa_, s0_, s1_, i64_w, i32_w]; rfl
   refine tA_ 0 22 ?_ (b_ 27 33554431) (take_ofW HT_.out HW_.out (by kernel_rfl)) rfl rfl (fun _ _ _ h => h) (by rfl) ?_ hHeld ?_ ?_ ?_; rotate_left
   · rintro w' ⟨s0, s1, s2, s3⟩; go_simp; with_reducible rfl
   rotate_left
   · simp only [Act.put, sa_, s0_, s1_, i64_w, i32_w]; rfl
   refine one_ (i := 25) (N := none) (b_ 27 67108863) rfl rfl (one_of HT_.out (by kernel_rfl)) (by decide) (fun K hK => ?_)
   have hs127 : w126.cell? ⟨gb163, 0, none⟩ = some (.slice none 0 0) := (blk_cell BK163.out 0).trans rfl
   have hfs127 := blk_frozen BK163.out 0
   have hns127_1 := NB171_163.out
   have hms127_1 := NB163_171.out
   have hs128 : w126.cell? ⟨gb163, 1, none⟩ = some (.int .i64 0) := (blk_cell BK163.out 1).trans rfl
   have hfs128 := blk_frozen BK163.out 1
   have hns128_1 := NB171_163.out
   have hms128_1 := NB163_171.out
   have hs129 : w126.cell? ⟨gb163, 2, none⟩ = some (.int .i64 0) := (blk_cell BK163.out 2).trans rfl
   have hfs129 := blk_frozen BK163.out 2
   have hns129_1 := NB171_163.out
   have hms129_1 := NB163_171.out
   have hs130 : w126.cell? ⟨gb163, 3, none⟩ = some (.string (⟨#[]⟩ : ByteArray)) := (blk_cell BK163.out 3).trans rfl
   have hfs130 := blk_frozen BK163.out 3
   have hns130_1 := NB171_163.out
   have hms130_1 := NB163_171.out
   refine skip_ (w1 := ?_) (by rfl) rfl ?_ ?_; rotate_left
   · go_simp; rfl
   refine hK.out _ _ ⟨((cell_far (p := ⟨gb163, _, none⟩) NB171_163.out _).trans (((cell_far (p := ⟨gb163, _, none⟩) NB171_163.out _).trans (((cell_far (p := ⟨gb163, _, none⟩) NB171_163.out _).trans (((cell_far (p := ⟨gb163, _, none⟩) NB171_163.out _).trans (hHeld.1)))))))), ((cell_far (p := ⟨gb163, _, none⟩) NB171_163.out _).trans (((cell_far (p := ⟨gb163, _, none⟩) NB171_163.out _).trans (((cell_far (p := ⟨gb163, _, none⟩) NB171_163.out _).trans (((cell_far (p := ⟨gb163, _, none⟩) NB171_163.out _).trans (hHeld.2.1)))))))), ((cell_far (p := ⟨gb163, _, none⟩) NB171_163.out _).trans (((cell_far (p := ⟨gb163, _, none⟩) NB171_163.out _).trans (((cell_far (p := ⟨gb163, _, none⟩) NB171_163.out _).trans (((cell_far (p := ⟨gb163, _, none⟩) NB171_163.out _).trans (hHeld.2.2.1)))))))), ((cell_far (p := ⟨gb163, _, none⟩) NB171_163.out _).trans (((cell_far (p := ⟨gb163, _, none⟩) NB171_163.out _).trans (((cell_far (p := ⟨gb163, _, none⟩) NB171_163.out _).trans (((cell_far (p := ⟨gb163, _, none⟩) NB171_163.out _).trans (hHeld.2.2.2))))))))⟩ (fun hHeld => ?_)
   clear hK K
   refine pA_ 26 1 ?_ (b_ 27 134217727) (any_of HT_.out (by kernel_rfl)) rfl rfl (fun _ _ _ h => h) (by rfl) ?_ ?_ ?_ ?_; rotate_left
   · intro w'; go_simp; with_reducible rfl
   rotate_left
   · simp only [Act.put, sa_, s0_, s1_, i64_w, i32_w]; rfl
   refine done_ (done_of HT_.out (by kernel_rfl)) ?_
   try go_wp2
   refine bodyPost_ret (results_ct rfl _ _ gb163 24 #[.slice Ao120 t189.length co120, .int .i64 t192, .int .i64 t193, .string t194] (0, 0) _ rfl (by (with_reducible repeat (first | refine blk_drewN ?_ _ | refine blk_drew ?_ | refine blk_alloc ?_ _)); refine blk_put (cs := #[.slice Ao120 t189.length co120, .int .i64 t192, .int .i64 t193, .string (⟨#[]⟩ : ByteArray)]) ?_ 3 _ rfl; (with_reducible repeat (first | refine blk_drewN ?_ _ | refine blk_drew ?_ | refine blk_alloc ?_ _)); refine blk_put (cs := #[.slice Ao120 t189.length co120, .int .i64 t192, .int .i64 0, .string (⟨#[]⟩ : ByteArray)]) ?_ 2 _ rfl; (with_reducible repeat (first | refine blk_drewN ?_ _ | refine blk_drew ?_ | refine blk_alloc ?_ _)); refine blk_put (cs := #[.slice Ao120 t189.length co120, .int .i64 0, .int .i64 0, .string (⟨#[]⟩ : ByteArray)]) ?_ 1 _ rfl; (with_reducible repeat (first | refine blk_drewN ?_ _ | refine blk_drew ?_ | refine blk_alloc ?_ _)); refine blk_put (cs := #[.slice none 0 0, .int .i64 0, .int .i64 0, .string (⟨#[]⟩ : ByteArray)]) ?_ 0 _ rfl; (with_reducible repeat (first | refine blk_drewN ?_ _ | refine blk_drew ?_ | refine blk_alloc ?_ _)); exact BK163.out) Try.underlying24 rfl (by kernel_rfl)) rfl ?_
   exact ⟨_, by first | rfl | (simp [errW_none, errW_some] <;> rfl) | (simp [*, errW_none, errW_some] <;> rfl) | exact ret_ie _ | (simp [*, errW_none, errW_some, bne]; done), by (with_reducible repeat (first | apply Kd.V_alloc | apply Kd.V_drewN | apply Kd.V_drew)); exact Kd.V_mono (Kd.V_far (p := ⟨gb163, 3, none⟩) (Kd.V_far (p := ⟨gb163, 2, none⟩) (Kd.V_far (p := ⟨gb163, 1, none⟩) (Kd.V_far (p := ⟨gb163, 0, none⟩) (Kd.V_mono HO191.out (fun k_ hk => (⟨hk, hk.2.2.1⟩ : _ ∧ k_ ≠ gb163))) (fun _ hk => hk.2) (.slice Ao120 t189.length co120)) (fun _ hk => hk.2) (.int .i64 t192)) (fun _ hk => hk.2) (.int .i64 t193)) (fun _ hk => hk.2) (.string t194)) (fun _ hk => hk.1.1), by repeat (first | (with_reducible first | exact HB.out | apply below_alloc | apply pw_below_drewN | apply below_drew1 | refine below_set ?_ GE163.out | refine below_set ?_ GE171.out) | exact HB.out)⟩
 ·
  rw [if_neg c6] at H
  have c6b0 : (t170 == 0) = false := beq_eq_false_iff_ne.mpr c6
  have c6b1 : (t170 != 0) = true := bne_iff_ne.mpr c6
  simp only [Option.some.injEq, Prod.mk.injEq] at H
  obtain ⟨rfl, rfl, rfl, rfl, rfl⟩ := H
  go_enter Try.func31, Try.ntmps31
  try go_wp2_with (first | ((with_reducible refine gate_dst (N := 0) rfl ?_); (try (refine gate_guard (by rfl) ?_; dsimp only)); refine box_event ?hg (N := 0) ?hd (cs := #[.slice none 0 0, .int .i64 0, .int .i64 0, .string (⟨#[]⟩ : ByteArray)]) (t := 24) ?hr ?_; (case hd => rfl); (case hg => rfl); (case hr => first | (go_simp; done) | (go_simp; rfl)); intro gb163 hg w131 hbox hb; have n0_ := Aside0.mk (below_step hq_ hb); have n1_ := Aside0.mk (hbox); have n2_ := Aside0.mk ((by rw [hg]; exact (below_size hq_) : w.heap.size ≤ gb163)); have n3_ := Aside0.mk ((by rw [hg]; exact (below_size hq_) : w.heap.size ≤ gb163)); clear HB; have HB := n0_; have BK163 := n1_; have GW163 := n2_; have GE163 := n3_; clear n0_ n1_ n2_ n3_; clear hb hbox hg) | ((with_reducible refine gate_callee (f := 19) rfl ?_); refine goesL_ (some 7) rfl rfl Try.func19 (by kernel_rfl) rfl #[.string (⟨#[108, 111, 103]⟩ : ByteArray)] rfl (by (try simp only [List.map_toArray, List.map_cons, List.map_nil]); first | done | rfl | (simp only [List.length_drop, List.length_take]; rfl)) ?_; (with_reducible refine (version_New.calls (⟨#[108, 111, 103]⟩ : ByteArray) t164 t167 t168 t169 t170 _ A1.out).mono ?_); rintro e w132 ⟨v165, rfl, ho0, hb⟩; refine ⟨_, rfl, ?_⟩; have n0_ := Aside0.mk (Kd.S_lower (Kd.S_newM (M := fun k_ => (w.heap.size ≤ k_)) ho0 (below_size hq_) (fun k_ h_ => h_)) (below_size hq_)); have n1_ := Aside0.mk (blk_below (g := gb163) (o := .cells #[.slice none 0 0, .int .i64 0, .int .i64 0, .string (⟨#[]⟩ : ByteArray)] 24 (0, 0)) bq_ hb); have n2_ := Aside0.mk (below_step hq_ hb); clear BK163; clear HB; have HO166 := n0_; have BK163 := n1_; have HB := n2_; clear n0_ n1_ n2_; (try clear hb); (try clear hb2); (try clear hk); (try clear hi); (try clear ho0)) | ((with_reducible refine gate_dst (N := 2) rfl ?_); (try (refine gate_guard (by rfl) ?_; dsimp only)); refine box_event ?hg (N := 2) ?hd (cs := #[.slice none 0 0, .int .i64 0, .int .i64 0, .string (⟨#[]⟩ : ByteArray)]) (t := 24) ?hr ?_; (case hd => rfl); (case hg => rfl); (case hr => first | (go_simp; done) | (go_simp; rfl)); intro gb171 hg w133 hbox hb; have n0_ := Aside0.mk (Kd.S_below rS_ hb); have n1_ := Aside0.mk (blk_below (g := gb163) (o := .cells #[.slice none 0 0, .int .i64 0, .int .i64 0, .string (⟨#[]⟩ : ByteArray)] 24 (0, 0)) bq_ hb); have n2_ := Aside0.mk (below_step hq_ hb); have n3_ := Aside0.mk (hbox); have n4_ := Aside0.mk ((by rw [hg]; exact (below_size hq_) : w.heap.size ≤ gb171)); have n5_ := Aside0.mk ((by rw [hg]; exact (below_size hq_) : w.heap.size ≤ gb171)); have n6_ := Aside0.mk ((by rw [hg]; exact Nat.ne_of_lt (blk_lt (g := gb163) (o := .cells #[.slice none 0 0, .int .i64 0, .int .i64 0, .string (⟨#[]⟩ : ByteArray)] 24 (0, 0)) bq_) : gb163 ≠ gb171)); have n7_ := Aside0.mk ((by rw [hg]; exact Nat.ne_of_gt (blk_lt (g := gb163) (o := .cells #[.slice none 0 0, .int .i64 0, .int .i64 0, .string (⟨#[]⟩ : ByteArray)] 24 (0, 0)) bq_) : gb171 ≠ gb163)); clear HO166; clear BK163; clear HB; have HO166 := n0_; have BK163 := n1_; have HB := n2_; have BK171 := n3_; have GW171 := n4_; have GE171 := n5_; have NB163_171 := n6_; have NB171_163 := n7_; clear n0_ n1_ n2_ n3_ n4_ n5_ n6_ n7_; clear hb hbox hg; obtain ⟨Ao134, co134, eo134⟩ := Kd.S_slice HO166.out; subst eo134; have hnb135 := NB171_163.out; have hnc135 := NB163_171.out; have hcz136_0 : w133.cell? ⟨gb171, 0, none⟩ = some (.slice none 0 0) := (blk_cell BK171.out 0).trans rfl; have hcz136_1 : w133.cell? ⟨gb171, 1, none⟩ = some (.int .i64 0) := (blk_cell BK171.out 1).trans rfl; have hcz136_2 : w133.cell? ⟨gb171, 2, none⟩ = some (.int .i64 0) := (blk_cell BK171.out 2).trans rfl; have hcz136_3 : w133.cell? ⟨gb171, 3, none⟩ = some (.string (⟨#[]⟩ : ByteArray)) := (blk_cell BK171.out 3).trans rfl; have hfz136_0 := blk_frozen BK171.out 0; have hfz136_1 := blk_frozen BK171.out 1; have hfz136_2 := blk_frozen BK171.out 2; have hfz136_3 := blk_frozen BK171.out 3))
  have n0_ : Aside0 (Kd.S (Kd.slice 32 k32) 27 ((((w133.setCell ⟨gb171, 0, none⟩ (.slice Ao134 t164.length co134)).setCell ⟨gb171, 1, none⟩ (.int .i64 t167)).setCell ⟨gb171, 2, none⟩ (.int .i64 t168)).setCell ⟨gb171, 3, none⟩ (.string t169)) w.heap.size (fun k_ => (w.heap.size ≤ k_)) (.slice Ao134 t164.length co134) t164) := ⟨by (with_reducible repeat (first | apply Kd.S_alloc | apply Kd.S_drewN | apply Kd.S_drew)); exact Kd.S_mono (Kd.S_far (p := ⟨gb171, 3, none⟩) (Kd.S_far (p := ⟨gb171, 2, none⟩) (Kd.S_far (p := ⟨gb171, 1, none⟩) (Kd.S_far (p := ⟨gb171, 0, none⟩) (Kd.S_types HO166.out BK171.out (by decide)) (fun _ hk => hk.2) (.slice Ao134 t164.length co134)) (fun _ hk => hk.2) (.int .i64 t167)) (fun _ hk => hk.2) (.int .i64 t168)) (fun _ hk => hk.2) (.string t169)) (fun _ hk => hk.1.1)⟩
  have n1_ : Aside0 (((((w133.setCell ⟨gb171, 0, none⟩ (.slice Ao134 t164.length co134)).setCell ⟨gb171, 1, none⟩ (.int .i64 t167)).setCell ⟨gb171, 2, none⟩ (.int .i64 t168)).setCell ⟨gb171, 3, none⟩ (.string t169)).heap[gb163]? = some (.cells #[.slice none 0 0, .int .i64 0, .int .i64 0, .string (⟨#[]⟩ : ByteArray)] 24 (0, 0))) := ⟨bf_⟩
  have n2_ : Aside0 (((((w133.setCell ⟨gb171, 0, none⟩ (.slice Ao134 t164.length co134)).setCell ⟨gb171, 1, none⟩ (.int .i64 t167)).setCell ⟨gb171, 2, none⟩ (.int .i64 t168)).setCell ⟨gb171, 3, none⟩ (.string t169)).heap[gb171]? = some (.cells #[.slice Ao134 t164.length co134, .int .i64 t167, .int .i64 t168, .string t169] 24 (0, 0))) := ⟨by (with_reducible repeat (first | refine blk_drewN ?_ _ | refine blk_drew ?_ | refine blk_alloc ?_ _)); refine blk_put (cs := #[.slice Ao134 t164.length co134, .int .i64 t167, .int .i64 t168, .string (⟨#[]⟩ : ByteArray)]) ?_ 3 _ rfl; (with_reducible repeat (first | refine blk_drewN ?_ _ | refine blk_drew ?_ | refine blk_alloc ?_ _)); refine blk_put (cs := #[.slice Ao134 t164.length co134, .int .i64 t167, .int .i64 0, .string (⟨#[]⟩ : ByteArray)]) ?_ 2 _ rfl; (with_reducible repeat (first | refine blk_drewN ?_ _ | refine blk_drew ?_ | refine blk_alloc ?_ _)); refine blk_put (cs := #[.slice Ao134 t164.length co134, .int .i64 0, .int .i64 0, .string (⟨#[]⟩ : ByteArray)]) ?_ 1 _ rfl; (with_reducible repeat (first | refine blk_drewN ?_ _ | refine blk_drew ?_ | refine blk_alloc ?_ _)); refine blk_put (cs := #[.slice none 0 0, .int .i64 0, .int .i64 0, .string (⟨#[]⟩ : ByteArray)]) ?_ 0 _ rfl; (with_reducible repeat (first | refine blk_drewN ?_ _ | refine blk_drew ?_ | refine blk_alloc ?_ _)); exact BK171.out⟩
  have n3_ : Aside0 (Below w.heap.size w ((((w133.setCell ⟨gb171, 0, none⟩ (.slice Ao134 t164.length co134)).setCell ⟨gb171, 1, none⟩ (.int .i64 t167)).setCell ⟨gb171, 2, none⟩ (.int .i64 t168)).setCell ⟨gb171, 3, none⟩ (.string t169))) := ⟨hq_⟩
  (try clear HO166)
  (try clear BK163)
  (try clear BK171)
  (try clear HB)
  generalize ((((w133.setCell ⟨gb171, 0, none⟩ (.slice Ao134 t164.length co134)).setCell ⟨gb171, 1, none⟩ (.int .i64 t167)).setCell ⟨gb171, 2, none⟩ (.int .i64 t168)).setCell ⟨gb171, 3, none⟩ (.string t169)) = w137 at n0_ n1_ n2_ n3_ ⊢
  have HO166 := n0_
  have BK163 := n1_
  have BK171 := n2_
  have HB := n3_
  clear n0_ n1_ n2_ n3_
  obtain ⟨HO166, BK163, BK171, HB⟩ := And.intro (Aside0.mk (Kd.S_drew HO166.out)) (And.intro (Aside0.mk (blk_drew BK163.out)) (And.intro (Aside0.mk (blk_drew BK171.out)) (Aside0.mk (below_drew1 HB.out))))
  refine start_ (n := 8) (S := fun w' => w'.cell? ⟨gb171, 0, none⟩ = some (.slice Ao134 t164.length co134) ∧ w'.cell? ⟨gb171, 1, none⟩ = some (.int .i64 t167) ∧ w'.cell? ⟨gb171, 2, none⟩ = some (.int .i64 t168) ∧ w'.cell? ⟨gb171, 3, none⟩ = some (.string t169)) (ds := [6]) (b_ 8 0) (by kernel_rfl) rfl rfl ⟨(blk_cell BK171.out 0).trans rfl, (blk_cell BK171.out 1).trans rfl, (blk_cell BK171.out 2).trans rfl, (blk_cell BK171.out 3).trans rfl⟩ (fun hHeld => ?_); refine with_tabW millhandlaw16_two.tab2 millhandlaw16_two.bits2 (fun HT_ HW_ => ?_)
  generalize w137.drew = w138 at HO166 BK163 BK171 HB hHeld ⊢
  refine tA_ 0 11 ?_ (b_ 8 1) (take_ofW HT_.out HW_.out (by kernel_rfl)) rfl rfl (fun _ _ _ h => h) (by rfl) ?_ hHeld ?_ ?_ ?_; rotate_left
  · rintro w' ⟨s0, s1, s2, s3⟩; go_simp; with_reducible rfl
  rotate_left
  · simp only [Act.put, sa_, s0_, s1_, i64_w, i32_w]; rfl
  refine one_ (i := 1) (N := some 12) (b_ 8 3) rfl rfl (one_of HT_.out (by kernel_rfl)) (by decide) (fun K hK => ?_)
  refine goes_ Try.func32 (by kernel_rfl) rfl #[.string (⟨#[97]⟩ : ByteArray), .string (⟨#[98]⟩ : ByteArray), .string (⟨#[100]⟩ : ByteArray)] (by rfl) rfl rfl (by (try simp only [List.map_toArray, List.map_cons, List.map_nil]); first | done | rfl | (simp only [List.length_drop, List.length_take]; rfl)) ?_
  with_reducible refine (millhandlaw16_table.calls (⟨#[97]⟩ : ByteArray) (⟨#[98]⟩ : ByteArray) (⟨#[100]⟩ : ByteArray) t172 t173 t174 t175 t176 _ A2.out).mono ?_
  rintro e w139 ⟨rfl, hb⟩
  refine ⟨_, rfl, ?_⟩
  obtain ⟨HO166, BK163, BK171, HB⟩ := And.intro (Aside0.mk (Kd.S_below rS_ hb)) (And.intro (Aside0.mk (blk_below (g := gb163) (o := .cells #[.slice none 0 0, .int .i64 0, .int .i64 0, .string (⟨#[]⟩ : ByteArray)] 24 (0, 0)) bq_ hb)) (And.intro (Aside0.mk (blk_below (g := gb171) (o := .cells #[.slice Ao134 t164.length co134, .int .i64 t167, .int .i64 t168, .string t169] 24 (0, 0)) bq_ hb)) (Aside0.mk (below_step hq_ hb))))
  (try clear hb)
  (try clear hb2)
  (try clear hk)
  (try clear hi)
  refine hK.out _ _ ⟨(blk_cell BK171.out 0).trans rfl, (blk_cell BK171.out 1).trans rfl, (blk_cell BK171.out 2).trans rfl, (blk_cell BK171.out 3).trans rfl⟩ (fun hHeld => ?_)
  clear hK K
  refine norm_ (a' := ?_) ?_ ?_
  rotate_left
  ·
   show Act.put _ (some 12) _ = _
   simp only [Act.put, sa_, s0_, s1_, i64_w, i32_w]
   rfl
  refine one_ (i := 2) (N := some 13) (b_ 8 7) rfl rfl (one_of HT_.out (by kernel_rfl)) (by decide) (fun K hK => ?_)
  refine goes_ Try.func15 (by kernel_rfl) rfl #[.agg #[.slice Ao134 t164.length co134, .int .i64 t167, .int .i64 t168, .string t169], .agg #[.string t172, .int .i64 t173, .int .i64 t174, .string t175, .string t176]] (by rfl) rfl rfl (by (try simp only [List.map_toArray, List.map_cons, List.map_nil]); first | done | rfl | (simp only [List.length_drop, List.length_take]; rfl)) ?_
  with_reducible refine (version_Add.calls k _ _ t164 t167 t168 t169 t172 t173 t174 t175 t176 t177 t180 t181 t182 t183 _ ?side1 ?side2 A3.out).mono ?_
  (case side1 => repeat (first | exact (Kd.S_reads' HO166.out).2.2 | (with_reducible refine Kd.C_alloc ?_ _) | (with_reducible refine Kd.C_drewN ?_ _) | (with_reducible refine Kd.C_drew ?_)))
  (case side2 => exact (Kd.S_reads' HO166.out).2.1)
  rintro e w140 ⟨v178, rfl, ho0, hb⟩
  refine ⟨_, rfl, ?_⟩
  obtain ⟨HO166, HO179, BK163, BK171, HB⟩ := And.intro (Aside0.mk (Kd.S_below rS_ hb)) (And.intro (Aside0.mk (Kd.V_lower (Kd.V_mono (ok' := fun k_ => (w.heap.size ≤ k_) ∧ some k_ ≠ (.slice Ao134 t164.length co134 : Value).ownBlock ∧ k_ ≠ gb163 ∧ k_ ≠ gb171) ho0 (fun k_ hk_ => ⟨(Nat.le_trans (below_size hq_) hk_), (Kd.fresh' (Kd.S_lt rS_) k_ hk_), (Kd.freshB (g := gb163) (o := .cells #[.slice none 0 0, .int .i64 0, .int .i64 0, .string (⟨#[]⟩ : ByteArray)] 24 (0, 0)) bq_ k_ hk_), (Kd.freshB (g := gb171) (o := .cells #[.slice Ao134 t164.length co134, .int .i64 t167, .int .i64 t168, .string t169] 24 (0, 0)) bq_ k_ hk_)⟩)) (below_size hq_))) (And.intro (Aside0.mk (blk_below (g := gb163) (o := .cells #[.slice none 0 0, .int .i64 0, .int .i64 0, .string (⟨#[]⟩ : ByteArray)] 24 (0, 0)) bq_ hb)) (And.intro (Aside0.mk (blk_below (g := gb171) (o := .cells #[.slice Ao134 t164.length co134, .int .i64 t167, .int .i64 t168, .string t169] 24 (0, 0)) bq_ hb)) (Aside0.mk (below_step hq_ hb)))))
  (try clear hb)
  (try clear hb2)
  (try clear hk)
  (try clear hi)
  (try clear ho0)
  obtain ⟨Ao141, co141, eo141⟩ := Kd.V_slice HO179.out
  (first | subst eo141 | (injection eo141 with f1_ f2_ f3_; have f4_ := f1_.symm; have f5_ := f3_.symm; clear f1_ f2_ f3_; subst f4_; subst f5_))
  refine hK.out _ _ ⟨(blk_cell BK171.out 0).trans rfl, (blk_cell BK171.out 1).trans rfl, (blk_cell BK171.out 2).trans rfl, (blk_cell BK171.out 3).trans rfl⟩ (fun hHeld => ?_)
  clear hK K
  refine norm_ (a' := ?_) ?_ ?_
  rotate_left
  ·
   show Act.put _ (some 13) _ = _
   simp only [Act.put, sa_, s0_, s1_, i64_w, i32_w]
   rfl
  refine pA_ 3 10 ?_ (b_ 8 15) (any_of HT_.out (by kernel_rfl)) rfl rfl (fun _ _ _ h => h) (by rfl) ?_ ?_ ?_ ?_; rotate_left
  · intro w'; go_simp; with_reducible rfl
  rotate_left
  · simp only [Act.put, sa_, s0_, s1_, i64_w, i32_w]; rfl
  refine pA_ 4 14 ?_ (b_ 8 31) (any_of HT_.out (by kernel_rfl)) rfl rfl (fun _ _ _ h => h) (by rfl) ?_ ?_ ?_ ?_; rotate_left
  · intro w'; go_simp; with_reducible rfl
  rotate_left
  · simp only [Act.put, sa_, s0_, s1_, i64_w, i32_w]; rfl
  refine pA_ 5 15 ?_ (b_ 8 63) (any_of HT_.out (by kernel_rfl)) rfl rfl (fun _ _ _ h => h) (by rfl) ?_ ?_ ?_ ?_; rotate_left
  · intro w'; go_simp; with_reducible rfl
  rotate_left
  · simp only [Act.put, sa_, s0_, s1_, i64_w, i32_w]; rfl
  refine last_ (i := 6) (N := none) (b_ 8 127) rfl rfl (one_of HT_.out (by kernel_rfl)) (by decide) (fun K hK => ?_)
  have hs142 : w140.cell? ⟨gb171, 0, none⟩ = some (.slice Ao134 t164.length co134) := (blk_cell BK171.out 0).trans rfl
  have hfs142 := blk_frozen BK171.out 0
  have hns142_0 := NB163_171.out
  have hms142_0 := NB171_163.out
  have hs143 : w140.cell? ⟨gb171, 1, none⟩ = some (.int .i64 t167) := (blk_cell BK171.out 1).trans rfl
  have hfs143 := blk_frozen BK171.out 1
  have hns143_0 := NB163_171.out
  have hms143_0 := NB171_163.out
  have hs144 : w140.cell? ⟨gb171, 2, none⟩ = some (.int .i64 t168) := (blk_cell BK171.out 2).trans rfl
  have hfs144 := blk_frozen BK171.out 2
  have hns144_0 := NB163_171.out
  have hms144_0 := NB171_163.out
  have hs145 : w140.cell? ⟨gb171, 3, none⟩ = some (.string t169) := (blk_cell BK171.out 3).trans rfl
  have hfs145 := blk_frozen BK171.out 3
  have hns145_0 := NB163_171.out
  have hms145_0 := NB171_163.out
  refine skip_ (w1 := ?_) (by rfl) rfl ?_ ?_; rotate_left
  · go_simp; rfl
  refine hK.out _ _ ?_
  clear hK K
  refine pA_ 7 4 ?_ (b_ 8 255) (any_of HT_.out (by kernel_rfl)) rfl rfl (fun _ _ _ h => h) (by rfl) ?_ ?_ ?_ ?_; rotate_left
  · intro w'; go_simp; with_reducible rfl
  rotate_left
  · simp only [Act.put, sa_, s0_, s1_, i64_w, i32_w]; rfl
  refine done_ (done_of HT_.out (by kernel_rfl)) ?_
  try go_wp2
  have n0_ : Aside0 (Kd.S (Kd.slice 32 k32) 27 ((((w140.setCell ⟨gb171, 0, none⟩ (.slice Ao141 t177.length co141)).setCell ⟨gb171, 1, none⟩ (.int .i64 t180)).setCell ⟨gb171, 2, none⟩ (.int .i64 t181)).setCell ⟨gb171, 3, none⟩ (.string t182)) w.heap.size (fun k_ => (w.heap.size ≤ k_)) (.slice Ao134 t164.length co134) t164) := ⟨by (with_reducible repeat (first | apply Kd.S_alloc | apply Kd.S_drewN | apply Kd.S_drew)); exact Kd.S_mono (Kd.S_far (p := ⟨gb171, 3, none⟩) (Kd.S_far (p := ⟨gb171, 2, none⟩) (Kd.S_far (p := ⟨gb171, 1, none⟩) (Kd.S_far (p := ⟨gb171, 0, none⟩) (Kd.S_types HO166.out BK171.out (by decide)) (fun _ hk => hk.2) (.slice Ao141 t177.length co141)) (fun _ hk => hk.2) (.int .i64 t180)) (fun _ hk => hk.2) (.int .i64 t181)) (fun _ hk => hk.2) (.string t182)) (fun _ hk => hk.1)⟩
  have n1_ : Aside0 (Kd.V (Kd.slice 32 k32) 27 ((((w140.setCell ⟨gb171, 0, none⟩ (.slice Ao141 t177.length co141)).setCell ⟨gb171, 1, none⟩ (.int .i64 t180)).setCell ⟨gb171, 2, none⟩ (.int .i64 t181)).setCell ⟨gb171, 3, none⟩ (.string t182)) w.heap.size (fun k_ => (w.heap.size ≤ k_) ∧ some k_ ≠ (.slice Ao134 t164.length co134 : Value).ownBlock ∧ k_ ≠ gb163 ∧ k_ ≠ gb171) (.slice Ao141 t177.length co141) t177) := ⟨by (with_reducible repeat (first | apply Kd.V_alloc | apply Kd.V_drewN | apply Kd.V_drew)); exact Kd.V_mono (Kd.V_far (p := ⟨gb171, 3, none⟩) (Kd.V_far (p := ⟨gb171, 2, none⟩) (Kd.V_far (p := ⟨gb171, 1, none⟩) (Kd.V_far (p := ⟨gb171, 0, none⟩) (Kd.V_mono HO179.out (fun k_ hk => (⟨hk, hk.2.2.2⟩ : _ ∧ k_ ≠ gb171))) (fun _ hk => hk.2) (.slice Ao141 t177.length co141)) (fun _ hk => hk.2) (.int .i64 t180)) (fun _ hk => hk.2) (.int .i64 t181)) (fun _ hk => hk.2) (.string t182)) (fun _ hk => ⟨hk.1.1, ⟨hk.1.2.1, ⟨hk.1.2.2.1, hk.1.2.2.2⟩⟩⟩)⟩
  have n2_ : Aside0 (((((w140.setCell ⟨gb171, 0, none⟩ (.slice Ao141 t177.length co141)).setCell ⟨gb171, 1, none⟩ (.int .i64 t180)).setCell ⟨gb171, 2, none⟩ (.int .i64 t181)).setCell ⟨gb171, 3, none⟩ (.string t182)).heap[gb163]? = some (.cells #[.slice none 0 0, .int .i64 0, .int .i64 0, .string (⟨#[]⟩ : ByteArray)] 24 (0, 0))) := ⟨bf_⟩
  have n3_ : Aside0 (((((w140.setCell ⟨gb171, 0, none⟩ (.slice Ao141 t177.length co141)).setCell ⟨gb171, 1, none⟩ (.int .i64 t180)).setCell ⟨gb171, 2, none⟩ (.int .i64 t181)).setCell ⟨gb171, 3, none⟩ (.string t182)).heap[gb171]? = some (.cells #[.slice Ao141 t177.length co141, .int .i64 t180, .int .i64 t181, .string t182] 24 (0, 0))) := ⟨by (with_reducible repeat (first | refine blk_drewN ?_ _ | refine blk_drew ?_ | refine blk_alloc ?_ _)); refine blk_put (cs := #[.slice Ao141 t177.length co141, .int .i64 t180, .int .i64 t181, .string t169]) ?_ 3 _ rfl; (with_reducible repeat (first | refine blk_drewN ?_ _ | refine blk_drew ?_ | refine blk_alloc ?_ _)); refine blk_put (cs := #[.slice Ao141 t177.length co141, .int .i64 t180, .int .i64 t168, .string t169]) ?_ 2 _ rfl; (with_reducible repeat (first | refine blk_drewN ?_ _ | refine blk_drew ?_ | refine blk_alloc ?_ _)); refine blk_put (cs := #[.slice Ao141 t177.length co141, .int .i64 t167, .int .i64 t168, .string t169]) ?_ 1 _ rfl; (with_reducible repeat (first | refine blk_drewN ?_ _ | refine blk_drew ?_ | refine blk_alloc ?_ _)); refine blk_put (cs := #[.slice Ao134 t164.length co134, .int .i64 t167, .int .i64 t168, .string t169]) ?_ 0 _ rfl; (with_reducible repeat (first | refine blk_drewN ?_ _ | refine blk_drew ?_ | refine blk_alloc ?_ _)); exact BK171.out⟩
  have n4_ : Aside0 (Below w.heap.size w ((((w140.setCell ⟨gb171, 0, none⟩ (.slice Ao141 t177.length co141)).setCell ⟨gb171, 1, none⟩ (.int .i64 t180)).setCell ⟨gb171, 2, none⟩ (.int .i64 t181)).setCell ⟨gb171, 3, none⟩ (.string t182))) := ⟨hq_⟩
  (try clear HO166)
  (try clear HO179)
  (try clear BK163)
  (try clear BK171)
  (try clear HB)
  generalize ((((w140.setCell ⟨gb171, 0, none⟩ (.slice Ao141 t177.length co141)).setCell ⟨gb171, 1, none⟩ (.int .i64 t180)).setCell ⟨gb171, 2, none⟩ (.int .i64 t181)).setCell ⟨gb171, 3, none⟩ (.string t182)) = w146 at n0_ n1_ n2_ n3_ n4_ ⊢
  have HO166 := n0_
  have HO179 := n1_
  have BK163 := n2_
  have BK171 := n3_
  have HB := n4_
  clear n0_ n1_ n2_ n3_ n4_
  obtain ⟨HO166, HO179, BK163, BK171, HB⟩ := And.intro (Aside0.mk (Kd.S_drew HO166.out)) (And.intro (Aside0.mk (Kd.V_drew HO179.out)) (And.intro (Aside0.mk (blk_drew BK163.out)) (And.intro (Aside0.mk (blk_drew BK171.out)) (Aside0.mk (below_drew1 HB.out)))))
  refine start_ (n := 8) (S := fun w' => w'.cell? ⟨gb171, 0, none⟩ = some (.slice Ao141 t177.length co141) ∧ w'.cell? ⟨gb171, 1, none⟩ = some (.int .i64 t180) ∧ w'.cell? ⟨gb171, 2, none⟩ = some (.int .i64 t181) ∧ w'.cell? ⟨gb171, 3, none⟩ = some (.string t182)) (ds := [6]) (b_ 8 0) (by kernel_rfl) rfl rfl ⟨(blk_cell BK171.out 0).trans rfl, (blk_cell BK171.out 1).trans rfl, (blk_cell BK171.out 2).trans rfl, (blk_cell BK171.out 3).trans rfl⟩ (fun hHeld => ?_); refine with_tabW millhandlaw16_two.tab3 millhandlaw16_two.bits3 (fun HT_ HW_ => ?_)
  generalize w146.drew = w147 at HO166 HO179 BK163 BK171 HB hHeld ⊢
  refine tA_ 0 17 ?_ (b_ 8 1) (take_ofW HT_.out HW_.out (by kernel_rfl)) rfl rfl (fun _ _ _ h => h) (by rfl) ?_ hHeld ?_ ?_ ?_; rotate_left
  · rintro w' ⟨s0, s1, s2, s3⟩; go_simp; with_reducible rfl
  rotate_left
  · simp only [Act.put, sa_, s0_, s1_, i64_w, i32_w]; rfl
  refine one_ (i := 1) (N := some 18) (b_ 8 3) rfl rfl (one_of HT_.out (by kernel_rfl)) (by decide) (fun K hK => ?_)
  refine goes_ Try.func32 (by kernel_rfl) rfl #[.string (⟨#[98]⟩ : ByteArray), .string (⟨#[99]⟩ : ByteArray), .string (⟨#[102]⟩ : ByteArray)] (by rfl) rfl rfl (by (try simp only [List.map_toArray, List.map_cons, List.map_nil]); first | done | rfl | (simp only [List.length_drop, List.length_take]; rfl)) ?_
  with_reducible refine (millhandlaw16_table.calls (⟨#[98]⟩ : ByteArray) (⟨#[99]⟩ : ByteArray) (⟨#[102]⟩ : ByteArray) t184 t185 t186 t187 t188 _ A4.out).mono ?_
  rintro e w148 ⟨rfl, hb⟩
  refine ⟨_, rfl, ?_⟩
  obtain ⟨HO166, HO179, BK163, BK171, HB⟩ := And.intro (Aside0.mk (Kd.S_below rS_ hb)) (And.intro (Aside0.mk (Kd.V_below rV_ hb)) (And.intro (Aside0.mk (blk_below (g := gb163) (o := .cells #[.slice none 0 0, .int .i64 0, .int .i64 0, .string (⟨#[]⟩ : ByteArray)] 24 (0, 0)) bq_ hb)) (And.intro (Aside0.mk (blk_below (g := gb171) (o := .cells #[.slice Ao141 t177.length co141, .int .i64 t180, .int .i64 t181, .string t182] 24 (0, 0)) bq_ hb)) (Aside0.mk (below_step hq_ hb)))))
  (try clear hb)
  (try clear hb2)
  (try clear hk)
  (try clear hi)
  refine hK.out _ _ ⟨(blk_cell BK171.out 0).trans rfl, (blk_cell BK171.out 1).trans rfl, (blk_cell BK171.out 2).trans rfl, (blk_cell BK171.out 3).trans rfl⟩ (fun hHeld => ?_)
  clear hK K
  refine norm_ (a' := ?_) ?_ ?_
  rotate_left
  ·
   show Act.put _ (some 18) _ = _
   simp only [Act.put, sa_, s0_, s1_, i64_w, i32_w]
   rfl
  refine one_ (i := 2) (N := some 19) (b_ 8 7) rfl rfl (one_of HT_.out (by kernel_rfl)) (by decide) (fun K hK => ?_)
  refine goes_ Try.func15 (by kernel_rfl) rfl #[.agg #[.slice Ao141 t177.length co141, .int .i64 t180, .int .i64 t181, .string t182], .agg #[.string t184, .int .i64 t185, .int .i64 t186, .string t187, .string t188]] (by rfl) rfl rfl (by (try simp only [List.map_toArray, List.map_cons, List.map_nil]); first | done | rfl | (simp only [List.length_drop, List.length_take]; rfl)) ?_
  with_reducible refine (version_Add.calls k _ _ t177 t180 t181 t182 t184 t185 t186 t187 t188 t189 t192 t193 t194 t195 _ ?side1 ?side2 A5.out).mono ?_
  (case side1 => repeat (first | exact (Kd.V_reads' HO179.out).2.2 | (with_reducible refine Kd.C_alloc ?_ _) | (with_reducible refine Kd.C_drewN ?_ _) | (with_reducible refine Kd.C_drew ?_)))
  (case side2 => exact (Kd.V_reads' HO179.out).2.1)
  rintro e w149 ⟨v190, rfl, ho0, hb⟩
  refine ⟨_, rfl, ?_⟩
  obtain ⟨HO166, HO179, HO191, BK163, BK171, HB⟩ := And.intro (Aside0.mk (Kd.S_below rS_ hb)) (And.intro (Aside0.mk (Kd.V_below rV_ hb)) (And.intro (Aside0.mk (Kd.V_lower (Kd.V_mono (ok' := fun k_ => (w.heap.size ≤ k_) ∧ some k_ ≠ (.slice Ao134 t164.length co134 : Value).ownBlock ∧ k_ ≠ gb163 ∧ k_ ≠ gb171) ho0 (fun k_ hk_ => ⟨(Nat.le_trans (below_size hq_) hk_), (Kd.fresh' (Kd.S_lt rS_) k_ hk_), (Kd.freshB (g := gb163) (o := .cells #[.slice none 0 0, .int .i64 0, .int .i64 0, .string (⟨#[]⟩ : ByteArray)] 24 (0, 0)) bq_ k_ hk_), (Kd.freshB (g := gb171) (o := .cells #[.slice Ao141 t177.length co141, .int .i64 t180, .int .i64 t181, .string t182] 24 (0, 0)) bq_ k_ hk_)⟩)) (below_size hq_))) (And.intro (Aside0.mk (blk_below (g := gb163) (o := .cells #[.slice none 0 0, .int .i64 0, .int .i64 0, .string (⟨#[]⟩ : ByteArray)] 24 (0, 0)) bq_ hb)) (And.intro (Aside0.mk (blk_below (g := gb171) (o := .cells #[.slice Ao141 t177.length co141, .int .i64 t180, .int .i64 t181, .string t182] 24 (0, 0)) bq_ hb)) (Aside0.mk (below_step hq_ hb))))))
  (try clear hb)
  (try clear hb2)
  (try clear hk)
  (try clear hi)
  (try clear ho0)
  obtain ⟨Ao150, co150, eo150⟩ := Kd.V_slice HO191.out
  (first | subst eo150 | (injection eo150 with f1_ f2_ f3_; have f4_ := f1_.symm; have f5_ := f3_.symm; clear f1_ f2_ f3_; subst f4_; subst f5_))
  refine hK.out _ _ ⟨(blk_cell BK171.out 0).trans rfl, (blk_cell BK171.out 1).trans rfl, (blk_cell BK171.out 2).trans rfl, (blk_cell BK171.out 3).trans rfl⟩ (fun hHeld => ?_)
  clear hK K
  refine norm_ (a' := ?_) ?_ ?_
  rotate_left
  ·
   show Act.put _ (some 19) _ = _
   simp only [Act.put, sa_, s0_, s1_, i64_w, i32_w]
   rfl
  refine pA_ 3 16 ?_ (b_ 8 15) (any_of HT_.out (by kernel_rfl)) rfl rfl (fun _ _ _ h => h) (by rfl) ?_ ?_ ?_ ?_; rotate_left
  · intro w'; go_simp; with_reducible rfl
  rotate_left
  · simp only [Act.put, sa_, s0_, s1_, i64_w, i32_w]; rfl
  refine pA_ 4 20 ?_ (b_ 8 31) (any_of HT_.out (by kernel_rfl)) rfl rfl (fun _ _ _ h => h) (by rfl) ?_ ?_ ?_ ?_; rotate_left
  · intro w'; go_simp; with_reducible rfl
  rotate_left
  · simp only [Act.put, sa_, s0_, s1_, i64_w, i32_w]; rfl
  refine pA_ 5 21 ?_ (b_ 8 63) (any_of HT_.out (by kernel_rfl)) rfl rfl (fun _ _ _ h => h) (by rfl) ?_ ?_ ?_ ?_; rotate_left
  · intro w'; go_simp; with_reducible rfl
  rotate_left
  · simp only [Act.put, sa_, s0_, s1_, i64_w, i32_w]; rfl
  refine last_ (i := 6) (N := none) (b_ 8 127) rfl rfl (one_of HT_.out (by kernel_rfl)) (by decide) (fun K hK => ?_)
  have hs151 : w149.cell? ⟨gb171, 0, none⟩ = some (.slice Ao141 t177.length co141) := (blk_cell BK171.out 0).trans rfl
  have hfs151 := blk_frozen BK171.out 0
  have hns151_0 := NB163_171.out
  have hms151_0 := NB171_163.out
  have hs152 : w149.cell? ⟨gb171, 1, none⟩ = some (.int .i64 t180) := (blk_cell BK171.out 1).trans rfl
  have hfs152 := blk_frozen BK171.out 1
  have hns152_0 := NB163_171.out
  have hms152_0 := NB171_163.out
  have hs153 : w149.cell? ⟨gb171, 2, none⟩ = some (.int .i64 t181) := (blk_cell BK171.out 2).trans rfl
  have hfs153 := blk_frozen BK171.out 2
  have hns153_0 := NB163_171.out
  have hms153_0 := NB171_163.out
  have hs154 : w149.cell? ⟨gb171, 3, none⟩ = some (.string t182) := (blk_cell BK171.out 3).trans rfl
  have hfs154 := blk_frozen BK171.out 3
  have hns154_0 := NB163_171.out
  have hms154_0 := NB171_163.out
  refine skip_ (w1 := ?_) (by rfl) rfl ?_ ?_; rotate_left
  · go_simp; rfl
  refine hK.out _ _ ?_
  clear hK K
  refine pA_ 7 5 ?_ (b_ 8 255) (any_of HT_.out (by kernel_rfl)) rfl rfl (fun _ _ _ h => h) (by rfl) ?_ ?_ ?_ ?_; rotate_left
  · intro w'; go_simp; with_reducible rfl
  rotate_left
  · simp only [Act.put, sa_, s0_, s1_, i64_w, i32_w]; rfl
  refine done_ (done_of HT_.out (by kernel_rfl)) ?_
  try go_wp2
  have n0_ : Aside0 (Kd.S (Kd.slice 32 k32) 27 ((((w149.setCell ⟨gb171, 0, none⟩ (.slice Ao150 t189.length co150)).setCell ⟨gb171, 1, none⟩ (.int .i64 t192)).setCell ⟨gb171, 2, none⟩ (.int .i64 t193)).setCell ⟨gb171, 3, none⟩ (.string t194)) w.heap.size (fun k_ => (w.heap.size ≤ k_)) (.slice Ao134 t164.length co134) t164) := ⟨by (with_reducible repeat (first | apply Kd.S_alloc | apply Kd.S_drewN | apply Kd.S_drew)); exact Kd.S_mono (Kd.S_far (p := ⟨gb171, 3, none⟩) (Kd.S_far (p := ⟨gb171, 2, none⟩) (Kd.S_far (p := ⟨gb171, 1, none⟩) (Kd.S_far (p := ⟨gb171, 0, none⟩) (Kd.S_types HO166.out BK171.out (by decide)) (fun _ hk => hk.2) (.slice Ao150 t189.length co150)) (fun _ hk => hk.2) (.int .i64 t192)) (fun _ hk => hk.2) (.int .i64 t193)) (fun _ hk => hk.2) (.string t194)) (fun _ hk => hk.1)⟩
  have n1_ : Aside0 (Kd.V (Kd.slice 32 k32) 27 ((((w149.setCell ⟨gb171, 0, none⟩ (.slice Ao150 t189.length co150)).setCell ⟨gb171, 1, none⟩ (.int .i64 t192)).setCell ⟨gb171, 2, none⟩ (.int .i64 t193)).setCell ⟨gb171, 3, none⟩ (.string t194)) w.heap.size (fun k_ => (w.heap.size ≤ k_) ∧ some k_ ≠ (.slice Ao134 t164.length co134 : Value).ownBlock ∧ k_ ≠ gb163 ∧ k_ ≠ gb171) (.slice Ao141 t177.length co141) t177) := ⟨by (with_reducible repeat (first | apply Kd.V_alloc | apply Kd.V_drewN | apply Kd.V_drew)); exact Kd.V_mono (Kd.V_far (p := ⟨gb171, 3, none⟩) (Kd.V_far (p := ⟨gb171, 2, none⟩) (Kd.V_far (p := ⟨gb171, 1, none⟩) (Kd.V_far (p := ⟨gb171, 0, none⟩) (Kd.V_mono HO179.out (fun k_ hk => (⟨hk, hk.2.2.2⟩ : _ ∧ k_ ≠ gb171))) (fun _ hk => hk.2) (.slice Ao150 t189.length co150)) (fun _ hk => hk.2) (.int .i64 t192)) (fun _ hk => hk.2) (.int .i64 t193)) (fun _ hk => hk.2) (.string t194)) (fun _ hk => ⟨hk.1.1, ⟨hk.1.2.1, ⟨hk.1.2.2.1, hk.1.2.2.2⟩⟩⟩)⟩
  have n2_ : Aside0 (Kd.V (Kd.slice 32 k32) 27 ((((w149.setCell ⟨gb171, 0, none⟩ (.slice Ao150 t189.length co150)).setCell ⟨gb171, 1, none⟩ (.int .i64 t192)).setCell ⟨gb171, 2, none⟩ (.int .i64 t193)).setCell ⟨gb171, 3, none⟩ (.string t194)) w.heap.size (fun k_ => (w.heap.size ≤ k_) ∧ some k_ ≠ (.slice Ao134 t164.length co134 : Value).ownBlock ∧ k_ ≠ gb163 ∧ k_ ≠ gb171) (.slice Ao150 t189.length co150) t189) := ⟨by (with_reducible repeat (first | apply Kd.V_alloc | apply Kd.V_drewN | apply Kd.V_drew)); exact Kd.V_mono (Kd.V_far (p := ⟨gb171, 3, none⟩) (Kd.V_far (p := ⟨gb171, 2, none⟩) (Kd.V_far (p := ⟨gb171, 1, none⟩) (Kd.V_far (p := ⟨gb171, 0, none⟩) (Kd.V_mono HO191.out (fun k_ hk => (⟨hk, hk.2.2.2⟩ : _ ∧ k_ ≠ gb171))) (fun _ hk => hk.2) (.slice Ao150 t189.length co150)) (fun _ hk => hk.2) (.int .i64 t192)) (fun _ hk => hk.2) (.int .i64 t193)) (fun _ hk => hk.2) (.string t194)) (fun _ hk => ⟨hk.1.1, ⟨hk.1.2.1, ⟨hk.1.2.2.1, hk.1.2.2.2⟩⟩⟩)⟩
  have n3_ : Aside0 (((((w149.setCell ⟨gb171, 0, none⟩ (.slice Ao150 t189.length co150)).setCell ⟨gb171, 1, none⟩ (.int .i64 t192)).setCell ⟨gb171, 2, none⟩ (.int .i64 t193)).setCell ⟨gb171, 3, none⟩ (.string t194)).heap[gb163]? = some (.cells #[.slice none 0 0, .int .i64 0, .int .i64 0, .string (⟨#[]⟩ : ByteArray)] 24 (0, 0))) := ⟨bf_⟩
  have n4_ : Aside0 (((((w149.setCell ⟨gb171, 0, none⟩ (.slice Ao150 t189.length co150)).setCell ⟨gb171, 1, none⟩ (.int .i64 t192)).setCell ⟨gb171, 2, none⟩ (.int .i64 t193)).setCell ⟨gb171, 3, none⟩ (.string t194)).heap[gb171]? = some (.cells #[.slice Ao150 t189.length co150, .int .i64 t192, .int .i64 t193, .string t194] 24 (0, 0))) := ⟨by (with_reducible repeat (first | refine blk_drewN ?_ _ | refine blk_drew ?_ | refine blk_alloc ?_ _)); refine blk_put (cs := #[.slice Ao150 t189.length co150, .int .i64 t192, .int .i64 t193, .string t182]) ?_ 3 _ rfl; (with_reducible repeat (first | refine blk_drewN ?_ _ | refine blk_drew ?_ | refine blk_alloc ?_ _)); refine blk_put (cs := #[.slice Ao150 t189.length co150, .int .i64 t192, .int .i64 t181, .string t182]) ?_ 2 _ rfl; (with_reducible repeat (first | refine blk_drewN ?_ _ | refine blk_drew ?_ | refine blk_alloc ?_ _)); refine blk_put (cs := #[.slice Ao150 t189.length co150, .int .i64 t180, .int .i64 t181, .string t182]) ?_ 1 _ rfl; (with_reducible repeat (first | refine blk_drewN ?_ _ | refine blk_drew ?_ | refine blk_alloc ?_ _)); refine blk_put (cs := #[.slice Ao141 t177.length co141, .int .i64 t180, .int .i64 t181, .string t182]) ?_ 0 _ rfl; (with_reducible repeat (first | refine blk_drewN ?_ _ | refine blk_drew ?_ | refine blk_alloc ?_ _)); exact BK171.out⟩
  have n5_ : Aside0 (Below w.heap.size w ((((w149.setCell ⟨gb171, 0, none⟩ (.slice Ao150 t189.length co150)).setCell ⟨gb171, 1, none⟩ (.int .i64 t192)).setCell ⟨gb171, 2, none⟩ (.int .i64 t193)).setCell ⟨gb171, 3, none⟩ (.string t194))) := ⟨hq_⟩
  (try clear HO166)
  (try clear HO179)
  (try clear HO191)
  (try clear BK163)
  (try clear BK171)
  (try clear HB)
  generalize ((((w149.setCell ⟨gb171, 0, none⟩ (.slice Ao150 t189.length co150)).setCell ⟨gb171, 1, none⟩ (.int .i64 t192)).setCell ⟨gb171, 2, none⟩ (.int .i64 t193)).setCell ⟨gb171, 3, none⟩ (.string t194)) = w155 at n0_ n1_ n2_ n3_ n4_ n5_ ⊢
  have HO166 := n0_
  have HO179 := n1_
  have HO191 := n2_
  have BK163 := n3_
  have BK171 := n4_
  have HB := n5_
  clear n0_ n1_ n2_ n3_ n4_ n5_
  obtain ⟨HO166, HO179, HO191, BK163, BK171, HB⟩ := And.intro (Aside0.mk (Kd.S_drew HO166.out)) (And.intro (Aside0.mk (Kd.V_drew HO179.out)) (And.intro (Aside0.mk (Kd.V_drew HO191.out)) (And.intro (Aside0.mk (blk_drew BK163.out)) (And.intro (Aside0.mk (blk_drew BK171.out)) (Aside0.mk (below_drew1 HB.out))))))
  refine start_ (n := 27) (S := fun w' => w'.cell? ⟨gb171, 0, none⟩ = some (.slice Ao150 t189.length co150) ∧ w'.cell? ⟨gb171, 1, none⟩ = some (.int .i64 t192) ∧ w'.cell? ⟨gb171, 2, none⟩ = some (.int .i64 t193) ∧ w'.cell? ⟨gb171, 3, none⟩ = some (.string t194)) (ds := []) (b_ 27 0) (by kernel_rfl) rfl rfl ⟨(blk_cell BK171.out 0).trans rfl, (blk_cell BK171.out 1).trans rfl, (blk_cell BK171.out 2).trans rfl, (blk_cell BK171.out 3).trans rfl⟩ (fun hHeld => ?_); refine with_tabW millhandlaw16_two.tab4 millhandlaw16_two.bits4 (fun HT_ HW_ => ?_)
  generalize w155.drew = w156 at HO166 HO179 HO191 BK163 BK171 HB hHeld ⊢
  refine pA_ 1 23 ?_ (b_ 27 2) (any_of HT_.out (by kernel_rfl)) rfl rfl (fun _ _ _ h => h) (by rfl) ?_ ?_ ?_ ?_; rotate_left
  · intro w'; go_simp; with_reducible rfl
  rotate_left
  · simp only [Act.put, sa_, s0_, s1_, i64_w, i32_w]; rfl
  refine pA_ 2 24 ?_ (b_ 27 6) (any_of HT_.out (by kernel_rfl)) rfl rfl (fun _ _ _ h => h) (by rfl) ?_ ?_ ?_ ?_; rotate_left
  · intro w'; go_simp; with_reducible rfl
  rotate_left
  · simp only [Act.put, sa_, s0_, s1_, i64_w, i32_w]; rfl
  refine pA_ 3 25 ?_ (b_ 27 14) (any_of HT_.out (by kernel_rfl)) rfl rfl (fun _ _ _ h => h) (by rfl) ?_ ?_ ?_ ?_; rotate_left
  · intro w'; go_simp; with_reducible rfl
  rotate_left
  · simp only [Act.put, sa_, s0_, s1_, i64_w, i32_w]; rfl
  refine pB_ 4 26 ?_ (b_ 27 30) (any_of HT_.out (by kernel_rfl)) rfl rfl (fun _ _ _ h => h) (by rfl) ?_ ?_; rotate_left
  · simp only [Act.put, sa_, s0_, s1_, i64_w, i32_w]; rfl
  refine pB_ 5 27 ?_ (b_ 27 62) (any_of HT_.out (by kernel_rfl)) rfl rfl (fun _ _ _ h => h) (by rfl) ?_ ?_; rotate_left
  · simp only [Act.put, sa_, s0_, s1_, i64_w, i32_w]; rfl
  refine pA_ 6 28 ?_ (b_ 27 126) (any_of HT_.out (by kernel_rfl)) rfl rfl (fun _ _ _ h => h) (by rfl) ?_ ?_ ?_ ?_; rotate_left
  · intro w'; go_simp; with_reducible rfl
  rotate_left
  · simp only [Act.put, sa_, s0_, s1_, i64_w, i32_w]; rfl
  refine pA_ 7 29 ?_ (b_ 27 254) (any_of HT_.out (by kernel_rfl)) rfl rfl (fun _ _ _ h => h) (by rfl) ?_ ?_ ?_ ?_; rotate_left
  · intro w'; go_simp; with_reducible rfl
  rotate_left
  · simp only [Act.put, sa_, s0_, s1_, i64_w, i32_w]; rfl
  refine pB_ 8 30 ?_ (b_ 27 510) (any_of HT_.out (by kernel_rfl)) rfl rfl (fun _ _ _ h => h) (by rfl) ?_ ?_; rotate_left
  · simp only [Act.put, sa_, s0_, s1_, i64_w, i32_w]; rfl
  refine pB_ 9 31 ?_ (b_ 27 1022) (any_of HT_.out (by kernel_rfl)) rfl rfl (fun _ _ _ h => h) (by rfl) ?_ ?_; rotate_left
  · simp only [Act.put, sa_, s0_, s1_, i64_w, i32_w]; rfl
  refine pA_ 10 32 ?_ (b_ 27 2046) (any_of HT_.out (by kernel_rfl)) rfl rfl (fun _ _ _ h => h) (by rfl) ?_ ?_ ?_ ?_; rotate_left
  · intro w'; go_simp; with_reducible rfl
  rotate_left
  · simp only [Act.put, sa_, s0_, s1_, i64_w, i32_w]; rfl
  refine pA_ 11 33 ?_ (b_ 27 4094) (any_of HT_.out (by kernel_rfl)) rfl rfl (fun _ _ _ h => h) (by rfl) ?_ ?_ ?_ ?_; rotate_left
  · intro w'; go_simp; with_reducible rfl
  rotate_left
  · simp only [Act.put, sa_, s0_, s1_, i64_w, i32_w]; rfl
  refine pB_ 12 34 ?_ (b_ 27 8190) (any_of HT_.out (by kernel_rfl)) rfl rfl (fun _ _ _ h => h) (by rfl) ?_ ?_; rotate_left
  · simp only [Act.put, sa_, s0_, s1_, i64_w, i32_w]; rfl
  refine pB_ 13 35 ?_ (b_ 27 16382) (any_of HT_.out (by kernel_rfl)) rfl rfl (fun _ _ _ h => h) (by rfl) ?_ ?_; rotate_left
  · simp only [Act.put, sa_, s0_, s1_, i64_w, i32_w]; rfl
  refine pB_ 14 36 ?_ (b_ 27 32766) (any_of HT_.out (by kernel_rfl)) rfl rfl (fun _ _ _ h => h) (by rfl) ?_ ?_; rotate_left
  · simp only [Act.put, sa_, s0_, s1_, i64_w, i32_w]; rfl
  refine pB_ 15 37 ?_ (b_ 27 65534) (any_of HT_.out (by kernel_rfl)) rfl rfl (fun _ _ _ h => h) (by rfl) ?_ ?_; rotate_left
  · simp only [Act.put, sa_, s0_, s1_, i64_w, i32_w]; rfl
  refine pA_ 16 38 ?_ (b_ 27 131070) (any_of HT_.out (by kernel_rfl)) rfl rfl (fun _ _ _ h => h) (by rfl) ?_ ?_ ?_ ?_; rotate_left
  · intro w'; go_simp; with_reducible rfl
  rotate_left
  · simp only [Act.put, sa_, s0_, s1_, i64_w, i32_w]; rfl
  refine pA_ 17 39 ?_ (b_ 27 262142) (any_of HT_.out (by kernel_rfl)) rfl rfl (fun _ _ _ h => h) (by rfl) ?_ ?_ ?_ ?_; rotate_left
  · intro w'; go_simp; with_reducible rfl
  rotate_left
  · simp only [Act.put, sa_, s0_, s1_, i64_w, i32_w]; rfl
  refine pB_ 18 40 ?_ (b_ 27 524286) (any_of HT_.out (by kernel_rfl)) rfl rfl (fun _ _ _ h => h) (by rfl) ?_ ?_; rotate_left
  · simp only [Act.put, sa_, s0_, s1_, i64_w, i32_w]; rfl
  refine pB_ 19 41 ?_ (b_ 27 1048574) (any_of HT_.out (by kernel_rfl)) rfl rfl (fun _ _ _ h => h) (by rfl) ?_ ?_; rotate_left
  · simp only [Act.put, sa_, s0_, s1_, i64_w, i32_w]; rfl
  refine pB_ 20 42 ?_ (b_ 27 2097150) (any_of HT_.out (by kernel_rfl)) rfl rfl (fun _ _ _ h => h) (by rfl) ?_ ?_; rotate_left
  · simp only [Act.put, sa_, s0_, s1_, i64_w, i32_w]; rfl
  refine pB_ 21 43 ?_ (b_ 27 4194302) (any_of HT_.out (by kernel_rfl)) rfl rfl (fun _ _ _ h => h) (by rfl) ?_ ?_; rotate_left
  · simp only [Act.put, sa_, s0_, s1_, i64_w, i32_w]; rfl
  refine pB_ 22 44 ?_ (b_ 27 8388606) (any_of HT_.out (by kernel_rfl)) rfl rfl (fun _ _ _ h => h) (by rfl) ?_ ?_; rotate_left
  · simp only [Act.put, sa_, s0_, s1_, i64_w, i32_w]; rfl
  refine pB_ 23 45 ?_ (b_ 27 16777214) (any_of HT_.out (by kernel_rfl)) rfl rfl (fun _ _ _ h => h) (by rfl) ?_ ?_; rotate_left
  · simp only [Act.put, sa_, s0_, s1_, i64_w, i32_w]; rfl
  refine pA_ 24 46 ?_ (b_ 27 33554430) (any_of HT_.out (by kernel_rfl)) rfl rfl (fun _ _ _ h => h) (by rfl) ?_ ?_ ?_ ?_; rotate_left
  · intro w'; go_simp; with_reducible rfl
  rotate_left
  · simp only [Act.put, sa_, s0_, s1_, i64_w, i32_w]; rfl
  refine tA_ 0 22 ?_ (b_ 27 33554431) (take_ofW HT_.out HW_.out (by kernel_rfl)) rfl rfl (fun _ _ _ h => h) (by rfl) ?_ hHeld ?_ ?_ ?_; rotate_left
  · rintro w' ⟨s0, s1, s2, s3⟩; go_simp; with_reducible rfl
  rotate_left
  · simp only [Act.put, sa_, s0_, s1_, i64_w, i32_w]; rfl
  refine one_ (i := 25) (N := none) (b_ 27 67108863) rfl rfl (one_of HT_.out (by kernel_rfl)) (by decide) (fun K hK => ?_)
  have hs157 : w156.cell? ⟨gb163, 0, none⟩ = some (.slice none 0 0) := (blk_cell BK163.out 0).trans rfl
  have hfs157 := blk_frozen BK163.out 0
  have hns157_1 := NB171_163.out
  have hms157_1 := NB163_171.out
  have hs158 : w156.cell? ⟨gb163, 1, none⟩ = some (.int .i64 0) := (blk_cell BK163.out 1).trans rfl
  have hfs158 := blk_frozen BK163.out 1
  have hns158_1 := NB171_163.out
  have hms158_1 := NB163_171.out
  have hs159 : w156.cell? ⟨gb163, 2, none⟩ = some (.int .i64 0) := (blk_cell BK163.out 2).trans rfl
  have hfs159 := blk_frozen BK163.out 2
  have hns159_1 := NB171_163.out
  have hms159_1 := NB163_171.out
  have hs160 : w156.cell? ⟨gb163, 3, none⟩ = some (.string (⟨#[]⟩ : ByteArray)) := (blk_cell BK163.out 3).trans rfl
  have hfs160 := blk_frozen BK163.out 3
  have hns160_1 := NB171_163.out
  have hms160_1 := NB163_171.out
  refine skip_ (w1 := ?_) (by rfl) rfl ?_ ?_; rotate_left
  · go_simp; rfl
  refine hK.out _ _ ⟨((cell_far (p := ⟨gb163, _, none⟩) NB171_163.out _).trans (((cell_far (p := ⟨gb163, _, none⟩) NB171_163.out _).trans (((cell_far (p := ⟨gb163, _, none⟩) NB171_163.out _).trans (((cell_far (p := ⟨gb163, _, none⟩) NB171_163.out _).trans (hHeld.1)))))))), ((cell_far (p := ⟨gb163, _, none⟩) NB171_163.out _).trans (((cell_far (p := ⟨gb163, _, none⟩) NB171_163.out _).trans (((cell_far (p := ⟨gb163, _, none⟩) NB171_163.out _).trans (((cell_far (p := ⟨gb163, _, none⟩) NB171_163.out _).trans (hHeld.2.1)))))))), ((cell_far (p := ⟨gb163, _, none⟩) NB171_163.out _).trans (((cell_far (p := ⟨gb163, _, none⟩) NB171_163.out _).trans (((cell_far (p := ⟨gb163, _, none⟩) NB171_163.out _).trans (((cell_far (p := ⟨gb163, _, none⟩) NB171_163.out _).trans (hHeld.2.2.1)))))))), ((cell_far (p := ⟨gb163, _, none⟩) NB171_163.out _).trans (((cell_far (p := ⟨gb163, _, none⟩) NB171_163.out _).trans (((cell_far (p := ⟨gb163, _, none⟩) NB171_163.out _).trans (((cell_far (p := ⟨gb163, _, none⟩) NB171_163.out _).trans (hHeld.2.2.2))))))))⟩ (fun hHeld => ?_)
  clear hK K
  refine pA_ 26 1 ?_ (b_ 27 134217727) (any_of HT_.out (by kernel_rfl)) rfl rfl (fun _ _ _ h => h) (by rfl) ?_ ?_ ?_ ?_; rotate_left
  · intro w'; go_simp; with_reducible rfl
  rotate_left
  · simp only [Act.put, sa_, s0_, s1_, i64_w, i32_w]; rfl
  refine done_ (done_of HT_.out (by kernel_rfl)) ?_
  try go_wp2
  refine bodyPost_ret (results_ct rfl _ _ gb163 24 #[.slice Ao150 t189.length co150, .int .i64 t192, .int .i64 t193, .string t194] (0, 0) _ rfl (by (with_reducible repeat (first | refine blk_drewN ?_ _ | refine blk_drew ?_ | refine blk_alloc ?_ _)); refine blk_put (cs := #[.slice Ao150 t189.length co150, .int .i64 t192, .int .i64 t193, .string (⟨#[]⟩ : ByteArray)]) ?_ 3 _ rfl; (with_reducible repeat (first | refine blk_drewN ?_ _ | refine blk_drew ?_ | refine blk_alloc ?_ _)); refine blk_put (cs := #[.slice Ao150 t189.length co150, .int .i64 t192, .int .i64 0, .string (⟨#[]⟩ : ByteArray)]) ?_ 2 _ rfl; (with_reducible repeat (first | refine blk_drewN ?_ _ | refine blk_drew ?_ | refine blk_alloc ?_ _)); refine blk_put (cs := #[.slice Ao150 t189.length co150, .int .i64 0, .int .i64 0, .string (⟨#[]⟩ : ByteArray)]) ?_ 1 _ rfl; (with_reducible repeat (first | refine blk_drewN ?_ _ | refine blk_drew ?_ | refine blk_alloc ?_ _)); refine blk_put (cs := #[.slice none 0 0, .int .i64 0, .int .i64 0, .string (⟨#[]⟩ : ByteArray)]) ?_ 0 _ rfl; (with_reducible repeat (first | refine blk_drewN ?_ _ | refine blk_drew ?_ | refine blk_alloc ?_ _)); exact BK163.out) Try.underlying24 rfl (by kernel_rfl)) rfl ?_
  exact ⟨_, by first | rfl | (simp [errW_none, errW_some] <;> rfl) | (simp [*, errW_none, errW_some] <;> rfl) | exact ret_ie _ | (simp [*, errW_none, errW_some, bne]; done), by (with_reducible repeat (first | apply Kd.V_alloc | apply Kd.V_drewN | apply Kd.V_drew)); exact Kd.V_mono (Kd.V_far (p := ⟨gb163, 3, none⟩) (Kd.V_far (p := ⟨gb163, 2, none⟩) (Kd.V_far (p := ⟨gb163, 1, none⟩) (Kd.V_far (p := ⟨gb163, 0, none⟩) (Kd.V_mono HO191.out (fun k_ hk => (⟨hk, hk.2.2.1⟩ : _ ∧ k_ ≠ gb163))) (fun _ hk => hk.2) (.slice Ao150 t189.length co150)) (fun _ hk => hk.2) (.int .i64 t192)) (fun _ hk => hk.2) (.int .i64 t193)) (fun _ hk => hk.2) (.string t194)) (fun _ hk => hk.1.1), by repeat (first | (with_reducible first | exact HB.out | apply below_alloc | apply pw_below_drewN | apply below_drew1 | refine below_set ?_ GE163.out | refine below_set ?_ GE171.out) | exact HB.out)⟩

end Go.Proofs.Ytdlghckcbbjipaa.R

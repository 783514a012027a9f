/- Contracts of Go functions and what they come to, over the translation of this seat: made by a program of this session (print2.py). -/
import Derived.Test.YtagdmgjdhbmaiaaDoorRx0
import Derived.Test.YtagdmgjdhbmaiaaDoorRx20
import Derived.Test.YtagdmgjdhbmaiaaDoorRx23
import Derived.Test.YtagdmgjdhbmaiaaDoorRx24
import Derived.Test.YtagdmgjdhbmaiaaDoorRx26
import Derived.Test.YtagdmgjdhbmaiaaDoorRx27
import Derived.Test.YtagdmgjdhbmaiaaDoorRx28
namespace Go.Proofs.YtagdmgjdhbmaiaaDoor.R
open Go.RowKit Go.Proofs.YtagdmgjdhbmaiaaDoor.Co Go.Proofs.YtagdmgjdhbmaiaaDoor.Ret Go.Proofs.YtagdmgjdhbmaiaaDoor.Plain Go.Proofs.YtagdmgjdhbmaiaaDoor.Box Go.Proofs.YtagdmgjdhbmaiaaDoorW.PrintWords Go.Proofs.YtagdmgjdhbmaiaaDoorW.PrintLast Go.Proofs.YtagdmgjdhbmaiaaDoorW.PrintMore
attribute [local go_sem] max2_int min2_int max_two min_two max_three min_three max_four min_four   -- for this text's walks alone
set_option linter.unusedVariables false
set_option linter.unusedSimpArgs false

/-! ### millhandlaw22_KeysTells: function 11 -/
def millhandlaw22_KeysTells.f (k : Nat) (a0 : Int) (a1 : ByteArray) (a2 : Int) : Option (Bool) := if (a1.size : Int) > 5000 then (some true) else ((keys_Run.f k a0).bind fun bt572 => ((millhandref22_Run.f k a0).bind fun bt574 => ((keys_Event.f k a0).bind fun bt576 => ((millhandref22_Event.f k a0).bind fun bt578 => ((keys_Name.f k a1).bind fun bt580 => ((millhandref22_Name.f k a1).bind fun bt582 => ((keys_Of.f k a1).bind fun bt584 => ((millhandref22_Of.f k a1).bind fun bt588 => ((keys_Range.f k a2).bind fun bt592 => ((millhandref22_Range.f k a2).bind fun bt595 => (if bt572.1.toList = bt574.1.toList then (if bt572.2 = bt574.2 then (if bt576.1.toList = bt578.1.toList then (if bt576.2 = bt578.2 then (if bt580.1.toList = bt582.1.toList then (if bt584.1 = bt588.1 then (if bt584.2.1 = bt588.2.1 then (if bt584.2.2.1.toList = bt588.2.2.1.toList then (if bt584.2.2.2 = bt588.2.2.2 then (if bt592.1.toList = bt595.1.toList then (if bt592.2.1.toList = bt595.2.1.toList then (if bt580.2 = bt582.2 then (if bt592.2.2 = bt595.2.2 then ((keys_Head.f k).bind fun t598 => ((millhandref22_Head.f k).bind fun t599 => (some (t598.toList == t599.toList)))) else (some false)) else (some false)) else (if bt580.2 = bt582.2 then (some false) else (some false))) else (if bt580.2 = bt582.2 then (some false) else (some false))) else (if bt580.2 = bt582.2 then (some false) else (some false))) else (if bt580.2 = bt582.2 then (some false) else (some false))) else (if bt580.2 = bt582.2 then (some false) else (some false))) else (if bt580.2 = bt582.2 then (some false) else (some false))) else (if bt584.1 = bt588.1 then (if bt584.2.1 = bt588.2.1 then (if bt584.2.2.1.toList = bt588.2.2.1.toList then (if bt584.2.2.2 = bt588.2.2.2 then (if bt592.1.toList = bt595.1.toList then (if bt592.2.1.toList = bt595.2.1.toList then (some false) else (some false)) else (some false)) else (some false)) else (some false)) else (some false)) else (some false))) else (if bt584.1 = bt588.1 then (if bt584.2.1 = bt588.2.1 then (if bt584.2.2.1.toList = bt588.2.2.1.toList then (if bt584.2.2.2 = bt588.2.2.2 then (if bt592.1.toList = bt595.1.toList then (if bt592.2.1.toList = bt595.2.1.toList then (some false) else (some false)) else (some false)) else (some false)) else (some false)) else (some false)) else (some false))) else (if bt584.1 = bt588.1 then (if bt584.2.1 = bt588.2.1 then (if bt584.2.2.1.toList = bt588.2.2.1.toList then (if bt584.2.2.2 = bt588.2.2.2 then (if bt592.1.toList = bt595.1.toList then (if bt592.2.1.toList = bt595.2.1.toList then (some false) else (some false)) else (some false)) else (some false)) else (some false)) else (some false)) else (some false))) else (if bt584.1 = bt588.1 then (if bt584.2.1 = bt588.2.1 then (if bt584.2.2.1.toList = bt588.2.2.1.toList then (if bt584.2.2.2 = bt588.2.2.2 then (if bt592.1.toList = bt595.1.toList then (if bt592.2.1.toList = bt595.2.1.toList then (some false) else (some false)) else (some false)) else (some false)) else (some false)) else (some false)) else (some false))) else (if bt584.1 = bt588.1 then (if bt584.2.1 = bt588.2.1 then (if bt584.2.2.1.toList = bt588.2.2.1.toList then (if bt584.2.2.2 = bt588.2.2.2 then (if bt592.1.toList = bt595.1.toList then (if bt592.2.1.toList = bt595.2.1.toList then (some false) else (some false)) else (some false)) else (some false)) else (some false)) else (some false)) else (some false)))))))))))))
theorem millhandlaw22_KeysTells.mono : ∀ a0 a1 a2 k, LeO (millhandlaw22_KeysTells.f k a0 a1 a2) (millhandlaw22_KeysTells.f (k + 1) a0 a1 a2) := by
 intro a0 a1 a2 k
 unfold millhandlaw22_KeysTells.f
 repeat' first
   | (with_reducible exact keys_Event.mono _ _)
   | (with_reducible exact keys_Head.mono _)
   | (with_reducible exact keys_Name.mono _ _)
   | (with_reducible exact keys_Of.mono _ _)
   | (with_reducible exact keys_Range.mono _ _)
   | (with_reducible exact keys_Run.mono _ _)
   | (with_reducible exact millhandref22_Event.mono _ _)
   | (with_reducible exact millhandref22_Head.mono _)
   | (with_reducible exact millhandref22_Name.mono _ _)
   | (with_reducible exact millhandref22_Of.mono _ _)
   | (with_reducible exact millhandref22_Range.mono _ _)
   | (with_reducible exact millhandref22_Run.mono _ _)
   | (with_reducible exact LeO.refl _)
   | (with_reducible exact LeO.none _)
   | (with_reducible refine LeO.ite ?_ ?_)
   | (with_reducible refine LeO.bind ?_ (fun _ => ?_))
   | exact keys_Event.mono _ _
   | exact keys_Head.mono _
   | exact keys_Name.mono _ _
   | exact keys_Of.mono _ _
   | exact keys_Range.mono _ _
   | exact keys_Run.mono _ _
   | exact millhandref22_Event.mono _ _
   | exact millhandref22_Head.mono _
   | exact millhandref22_Name.mono _ _
   | exact millhandref22_Of.mono _ _
   | exact millhandref22_Range.mono _ _
   | exact millhandref22_Run.mono _ _
   | exact LeO.none _
   | refine LeO.ite ?_ ?_
   | refine LeO.bind ?_ (fun _ => ?_)
set_option maxHeartbeats 8000000 in
set_option maxRecDepth 100000 in
theorem millhandlaw22_KeysTells.calls (k : Nat) (a0 : Int) (a1 : ByteArray) (a2 : Int) (r : Bool) (w : World) (h : millhandlaw22_KeysTells.f k a0 a1 a2 = some r) (hr : r = true) :
  Calls Tryd.prog 11 #[.int .i64 a0, .string a1, .int .u8 a2] w fun e w' => e = .returned (.bool r) ∧ Below w.heap.size w w' := by
 have HB := Aside0.mk (Below.refl w.heap.size w)
 have H : (if (a1.size : Int) > 5000 then (some true) else ((keys_Run.f k a0).bind fun bt572 => ((millhandref22_Run.f k a0).bind fun bt574 => ((keys_Event.f k a0).bind fun bt576 => ((millhandref22_Event.f k a0).bind fun bt578 => ((keys_Name.f k a1).bind fun bt580 => ((millhandref22_Name.f k a1).bind fun bt582 => ((keys_Of.f k a1).bind fun bt584 => ((millhandref22_Of.f k a1).bind fun bt588 => ((keys_Range.f k a2).bind fun bt592 => ((millhandref22_Range.f k a2).bind fun bt595 => (if bt572.1.toList = bt574.1.toList then (if bt572.2 = bt574.2 then (if bt576.1.toList = bt578.1.toList then (if bt576.2 = bt578.2 then (if bt580.1.toList = bt582.1.toList then (if bt584.1 = bt588.1 then (if bt584.2.1 = bt588.2.1 then (if bt584.2.2.1.toList = bt588.2.2.1.toList then (if bt584.2.2.2 = bt588.2.2.2 then (if bt592.1.toList = bt595.1.toList then (if bt592.2.1.toList = bt595.2.1.toList then (if bt580.2 = bt582.2 then (if bt592.2.2 = bt595.2.2 then ((keys_Head.f k).bind fun t598 => ((millhandref22_Head.f k).bind fun t599 => (some (t598.toList == t599.toList)))) else (some false)) else (some false)) else (if bt580.2 = bt582.2 then (some false) else (some false))) else (if bt580.2 = bt582.2 then (some false) else (some false))) else (if bt580.2 = bt582.2 then (some false) else (some false))) else (if bt580.2 = bt582.2 then (some false) else (some false))) else (if bt580.2 = bt582.2 then (some false) else (some false))) else (if bt580.2 = bt582.2 then (some false) else (some false))) else (if bt584.1 = bt588.1 then (if bt584.2.1 = bt588.2.1 then (if bt584.2.2.1.toList = bt588.2.2.1.toList then (if bt584.2.2.2 = bt588.2.2.2 then (if bt592.1.toList = bt595.1.toList then (if bt592.2.1.toList = bt595.2.1.toList then (some false) else (some false)) else (some false)) else (some false)) else (some false)) else (some false)) else (some false))) else (if bt584.1 = bt588.1 then (if bt584.2.1 = bt588.2.1 then (if bt584.2.2.1.toList = bt588.2.2.1.toList then (if bt584.2.2.2 = bt588.2.2.2 then (if bt592.1.toList = bt595.1.toList then (if bt592.2.1.toList = bt595.2.1.toList then (some false) else (some false)) else (some false)) else (some false)) else (some false)) else (some false)) else (some false))) else (if bt584.1 = bt588.1 then (if bt584.2.1 = bt588.2.1 then (if bt584.2.2.1.toList = bt588.2.2.1.toList then (if bt584.2.2.2 = bt588.2.2.2 then (if bt592.1.toList = bt595.1.toList then (if bt592.2.1.toList = bt595.2.1.toList then (some false) else (some false)) else (some false)) else (some false)) else (some false)) else (some false)) else (some false))) else (if bt584.1 = bt588.1 then (if bt584.2.1 = bt588.2.1 then (if bt584.2.2.1.toList = bt588.2.2.1.toList then (if bt584.2.2.2 = bt588.2.2.2 then (if bt592.1.toList = bt595.1.toList then (if bt592.2.1.toList = bt595.2.1.toList then (some false) else (some false)) else (some false)) else (some false)) else (some false)) else (some false)) else (some false))) else (if bt584.1 = bt588.1 then (if bt584.2.1 = bt588.2.1 then (if bt584.2.2.1.toList = bt588.2.2.1.toList then (if bt584.2.2.2 = bt588.2.2.2 then (if bt592.1.toList = bt595.1.toList then (if bt592.2.1.toList = bt595.2.1.toList then (some false) else (some false)) else (some false)) else (some false)) else (some false)) else (some false)) else (some false)))))))))))))) = some r := h
 clear h
 by_cases c4 : (a1.size : Int) > 5000
 ·
  rw [if_pos c4] at H
  have c4b0 : decide (5000 < (a1.size : Int)) = true := decide_eq_true c4
  have c4b1 : decide (5000 < a1.size) = true := decide_eq_true (by omega)
  clear c4
  obtain rfl := Option.some.inj H
  go_enter Tryd.func11, Tryd.ntmps11
  go_wp2
  go_ret
  exact ⟨by first | rfl | (simp [errW_none, errW_some] <;> rfl) | (simp [*, errW_none, errW_some] <;> rfl) | exact ret_ie _ | (simp [*, errW_none, errW_some, bne]; done), by repeat (first | (with_reducible first | exact HB.out | apply below_alloc | apply pw_below_drewN | apply below_drew1) | exact HB.out)⟩
 ·
  rw [if_neg c4] at H
  have c4b0 : decide (5000 < (a1.size : Int)) = false := decide_eq_false c4
  have c4b1 : decide (5000 < a1.size) = false := decide_eq_false (by omega)
  clear c4
  replace H := Option.bind_eq_some_iff.mp H
  obtain ⟨⟨t572, t573⟩, A50, H⟩ := H
  try dsimp only at H
  have A5 := Aside0.mk A50
  clear A50
  replace H := Option.bind_eq_some_iff.mp H
  obtain ⟨⟨t574, t575⟩, A60, H⟩ := H
  try dsimp only at H
  have A6 := Aside0.mk A60
  clear A60
  replace H := Option.bind_eq_some_iff.mp H
  obtain ⟨⟨t576, t577⟩, A70, H⟩ := H
  try dsimp only at H
  have A7 := Aside0.mk A70
  clear A70
  replace H := Option.bind_eq_some_iff.mp H
  obtain ⟨⟨t578, t579⟩, A80, H⟩ := H
  try dsimp only at H
  have A8 := Aside0.mk A80
  clear A80
  replace H := Option.bind_eq_some_iff.mp H
  obtain ⟨⟨t580, t581⟩, A90, H⟩ := H
  try dsimp only at H
  have A9 := Aside0.mk A90
  clear A90
  replace H := Option.bind_eq_some_iff.mp H
  obtain ⟨⟨t582, t583⟩, A100, H⟩ := H
  try dsimp only at H
  have A10 := Aside0.mk A100
  clear A100
  replace H := Option.bind_eq_some_iff.mp H
  obtain ⟨⟨t584, t585, t586, t587⟩, A110, H⟩ := H
  try dsimp only at H
  have A11 := Aside0.mk A110
  clear A110
  replace H := Option.bind_eq_some_iff.mp H
  obtain ⟨⟨t588, t589, t590, t591⟩, A120, H⟩ := H
  try dsimp only at H
  have A12 := Aside0.mk A120
  clear A120
  replace H := Option.bind_eq_some_iff.mp H
  obtain ⟨⟨t592, t593, t594⟩, A130, H⟩ := H
  try dsimp only at H
  have A13 := Aside0.mk A130
  clear A130
  replace H := Option.bind_eq_some_iff.mp H
  obtain ⟨⟨t595, t596, t597⟩, A140, H⟩ := H
  try dsimp only at H
  have A14 := Aside0.mk A140
  clear A140
  by_cases c15 : t572.toList = t574.toList
  ·
   rw [if_pos c15] at H
   have c15b0 : (t572.toList == t574.toList) = true := beq_iff_eq.mpr c15
   have c15b1 : (t572.toList != t574.toList) = false := bne_eq_false_iff_eq.mpr c15
   clear c15
   by_cases c16 : t573 = t575
   ·
    rw [if_pos c16] at H
    have c16b0 : (t573 == t575) = true := beq_iff_eq.mpr c16
    have c16b1 : (t573 != t575) = false := bne_eq_false_iff_eq.mpr c16
    clear c16
    by_cases c17 : t576.toList = t578.toList
    ·
     rw [if_pos c17] at H
     have c17b0 : (t576.toList == t578.toList) = true := beq_iff_eq.mpr c17
     have c17b1 : (t576.toList != t578.toList) = false := bne_eq_false_iff_eq.mpr c17
     clear c17
     by_cases c18 : t577 = t579
     ·
      rw [if_pos c18] at H
      have c18b0 : (t577 == t579) = true := beq_iff_eq.mpr c18
      have c18b1 : (t577 != t579) = false := bne_eq_false_iff_eq.mpr c18
      clear c18
      by_cases c19 : t580.toList = t582.toList
      ·
       rw [if_pos c19] at H
       have c19b0 : (t580.toList == t582.toList) = true := beq_iff_eq.mpr c19
       have c19b1 : (t580.toList != t582.toList) = false := bne_eq_false_iff_eq.mpr c19
       clear c19
       by_cases c20 : t584 = t588
       ·
        rw [if_pos c20] at H
        have c20b0 : (t584 == t588) = true := beq_iff_eq.mpr c20
        have c20b1 : (t584 != t588) = false := bne_eq_false_iff_eq.mpr c20
        clear c20
        by_cases c21 : t585 = t589
        ·
         rw [if_pos c21] at H
         have c21b0 : (t585 == t589) = true := beq_iff_eq.mpr c21
         have c21b1 : (t585 != t589) = false := bne_eq_false_iff_eq.mpr c21
         clear c21
         by_cases c22 : t586.toList = t590.toList
         ·
          rw [if_pos c22] at H
          have c22b0 : (t586.toList == t590.toList) = true := beq_iff_eq.mpr c22
          have c22b1 : (t586.toList != t590.toList) = false := bne_eq_false_iff_eq.mpr c22
          clear c22
          by_cases c23 : t587 = t591
          ·
           rw [if_pos c23] at H
           have c23b0 : (t587 == t591) = true := beq_iff_eq.mpr c23
           have c23b1 : (t587 != t591) = false := bne_eq_false_iff_eq.mpr c23
           clear c23
           by_cases c24 : t592.toList = t595.toList
           ·
            rw [if_pos c24] at H
            have c24b0 : (t592.toList == t595.toList) = true := beq_iff_eq.mpr c24
            have c24b1 : (t592.toList != t595.toList) = false := bne_eq_false_iff_eq.mpr c24
            clear c24
            by_cases c25 : t593.toList = t596.toList
            ·
             rw [if_pos c25] at H
             have c25b0 : (t593.toList == t596.toList) = true := beq_iff_eq.mpr c25
             have c25b1 : (t593.toList != t596.toList) = false := bne_eq_false_iff_eq.mpr c25
             clear c25
             by_cases c26 : t581 = t583
             ·
              rw [if_pos c26] at H
              have c26b0 : (t581 == t583) = true := beq_iff_eq.mpr c26
              have c26b1 : (t581 != t583) = false := bne_eq_false_iff_eq.mpr c26
              clear c26
              by_cases c27 : t594 = t597
              ·
               rw [if_pos c27] at H
               have c27b0 : (t594 == t597) = true := beq_iff_eq.mpr c27
               have c27b1 : (t594 != t597) = false := bne_eq_false_iff_eq.mpr c27
               clear c27
               replace H := Option.bind_eq_some_iff.mp H
               obtain ⟨t598, A280, H⟩ := H
               replace H : ((millhandref22_Head.f k).bind fun t599 => (some (t598.toList == t599.toList))) = some r := H
               have A28 := Aside0.mk A280
               clear A280
               replace H := Option.bind_eq_some_iff.mp H
               obtain ⟨t599, A290, H⟩ := H
               replace H : (some (t598.toList == t599.toList)) = some r := H
               have A29 := Aside0.mk A290
               clear A290
               obtain rfl := Option.some.inj H
               go_enter Tryd.func11, Tryd.ntmps11
               go_wp2_with (first | ((with_reducible refine gate_callee (f := 30) rfl ?_); refine goesL_ (some 40) rfl rfl Tryd.func30 (by kernel_rfl) rfl #[.int .i64 a0] rfl (by (try simp only [List.map_toArray, List.map_cons, List.map_nil]); first | done | rfl | (simp only [List.length_drop, List.length_take]; rfl)) ?_; (with_reducible refine (keys_Run.calls k a0 t572 t573 _ A5.out).mono ?_); rintro e w30 ⟨rfl, hb⟩; refine ⟨_, rfl, ?_⟩; have n0_ := Aside0.mk (below_step (by repeat (first | (with_reducible first | exact HB.out | apply below_alloc | apply pw_below_drewN | apply below_drew1) | exact HB.out)) hb); clear HB; have HB := n0_; clear n0_; (try clear hb); (try clear hb2); (try clear hk); (try clear hi)) | ((with_reducible refine gate_callee (f := 36) rfl ?_); refine goesL_ (some 45) rfl rfl Tryd.func36 (by kernel_rfl) rfl #[.int .i64 a0] rfl (by (try simp only [List.map_toArray, List.map_cons, List.map_nil]); first | done | rfl | (simp only [List.length_drop, List.length_take]; rfl)) ?_; (with_reducible refine (millhandref22_Run.calls k a0 t574 t575 _ A6.out).mono ?_); rintro e w31 ⟨rfl, hb⟩; refine ⟨_, rfl, ?_⟩; have n0_ := Aside0.mk (below_step (by repeat (first | (with_reducible first | exact HB.out | apply below_alloc | apply pw_below_drewN | apply below_drew1) | exact HB.out)) hb); clear HB; have HB := n0_; clear n0_; (try clear hb); (try clear hb2); (try clear hk); (try clear hi)) | ((with_reducible refine gate_callee (f := 31) rfl ?_); refine goesL_ (some 50) rfl rfl Tryd.func31 (by kernel_rfl) rfl #[.int .i64 a0] rfl (by (try simp only [List.map_toArray, List.map_cons, List.map_nil]); first | done | rfl | (simp only [List.length_drop, List.length_take]; rfl)) ?_; (with_reducible refine (keys_Event.calls k a0 t576 t577 _ A7.out).mono ?_); rintro e w32 ⟨rfl, hb⟩; refine ⟨_, rfl, ?_⟩; have n0_ := Aside0.mk (below_step (by repeat (first | (with_reducible first | exact HB.out | apply below_alloc | apply pw_below_drewN | apply below_drew1) | exact HB.out)) hb); clear HB; have HB := n0_; clear n0_; (try clear hb); (try clear hb2); (try clear hk); (try clear hi)) | ((with_reducible refine gate_callee (f := 37) rfl ?_); refine goesL_ (some 55) rfl rfl Tryd.func37 (by kernel_rfl) rfl #[.int .i64 a0] rfl (by (try simp only [List.map_toArray, List.map_cons, List.map_nil]); first | done | rfl | (simp only [List.length_drop, List.length_take]; rfl)) ?_; (with_reducible refine (millhandref22_Event.calls k a0 t578 t579 _ A8.out).mono ?_); rintro e w33 ⟨rfl, hb⟩; refine ⟨_, rfl, ?_⟩; have n0_ := Aside0.mk (below_step (by repeat (first | (with_reducible first | exact HB.out | apply below_alloc | apply pw_below_drewN | apply below_drew1) | exact HB.out)) hb); clear HB; have HB := n0_; clear n0_; (try clear hb); (try clear hb2); (try clear hk); (try clear hi)) | ((with_reducible refine gate_callee (f := 32) rfl ?_); refine goesL_ (some 60) rfl rfl Tryd.func32 (by kernel_rfl) rfl #[.string a1] rfl (by (try simp only [List.map_toArray, List.map_cons, List.map_nil]); first | done | rfl | (simp only [List.length_drop, List.length_take]; rfl)) ?_; (with_reducible refine (keys_Name.calls k a1 t580 t581 _ A9.out).mono ?_); rintro e w34 ⟨rfl, hb⟩; refine ⟨_, rfl, ?_⟩; have n0_ := Aside0.mk (below_step (by repeat (first | (with_reducible first | exact HB.out | apply below_alloc | apply pw_below_drewN | apply below_drew1) | exact HB.out)) hb); clear HB; have HB := n0_; clear n0_; (try clear hb); (try clear hb2); (try clear hk); (try clear hi)) | ((with_reducible refine gate_callee (f := 38) rfl ?_); refine goesL_ (some 65) rfl rfl Tryd.func38 (by kernel_rfl) rfl #[.string a1] rfl (by (try simp only [List.map_toArray, List.map_cons, List.map_nil]); first | done | rfl | (simp only [List.length_drop, List.length_take]; rfl)) ?_; (with_reducible refine (millhandref22_Name.calls k a1 t582 t583 _ A10.out).mono ?_); rintro e w35 ⟨rfl, hb⟩; refine ⟨_, rfl, ?_⟩; have n0_ := Aside0.mk (below_step (by repeat (first | (with_reducible first | exact HB.out | apply below_alloc | apply pw_below_drewN | apply below_drew1) | exact HB.out)) hb); clear HB; have HB := n0_; clear n0_; (try clear hb); (try clear hb2); (try clear hk); (try clear hi)) | ((with_reducible refine gate_callee (f := 34) rfl ?_); refine goesL_ (some 70) rfl rfl Tryd.func34 (by kernel_rfl) rfl #[.string a1] rfl (by (try simp only [List.map_toArray, List.map_cons, List.map_nil]); first | done | rfl | (simp only [List.length_drop, List.length_take]; rfl)) ?_; (with_reducible refine (keys_Of.calls k a1 t584 t585 t586 t587 _ A11.out).mono ?_); rintro e w36 ⟨rfl, hb⟩; refine ⟨_, rfl, ?_⟩; have n0_ := Aside0.mk (below_step (by repeat (first | (with_reducible first | exact HB.out | apply below_alloc | apply pw_below_drewN | apply below_drew1) | exact HB.out)) hb); clear HB; have HB := n0_; clear n0_; (try clear hb); (try clear hb2); (try clear hk); (try clear hi)) | ((with_reducible refine gate_callee (f := 39) rfl ?_); refine goesL_ (some 77) rfl rfl Tryd.func39 (by kernel_rfl) rfl #[.string a1] rfl (by (try simp only [List.map_toArray, List.map_cons, List.map_nil]); first | done | rfl | (simp only [List.length_drop, List.length_take]; rfl)) ?_; (with_reducible refine (millhandref22_Of.calls k a1 t588 t589 t590 t591 _ A12.out).mono ?_); rintro e w37 ⟨rfl, hb⟩; refine ⟨_, rfl, ?_⟩; have n0_ := Aside0.mk (below_step (by repeat (first | (with_reducible first | exact HB.out | apply below_alloc | apply pw_below_drewN | apply below_drew1) | exact HB.out)) hb); clear HB; have HB := n0_; clear n0_; (try clear hb); (try clear hb2); (try clear hk); (try clear hi)) | ((with_reducible refine gate_callee (f := 40) rfl ?_); refine goesL_ (some 84) rfl rfl Tryd.func40 (by kernel_rfl) rfl #[.int .u8 a2] rfl (by (try simp only [List.map_toArray, List.map_cons, List.map_nil]); first | done | rfl | (simp only [List.length_drop, List.length_take]; rfl)) ?_; (with_reducible refine (keys_Range.calls k a2 t592 t593 t594 _ A13.out).mono ?_); rintro e w38 ⟨rfl, hb⟩; refine ⟨_, rfl, ?_⟩; have n0_ := Aside0.mk (below_step (by repeat (first | (with_reducible first | exact HB.out | apply below_alloc | apply pw_below_drewN | apply below_drew1) | exact HB.out)) hb); clear HB; have HB := n0_; clear n0_; (try clear hb); (try clear hb2); (try clear hk); (try clear hi)) | ((with_reducible refine gate_callee (f := 41) rfl ?_); refine goesL_ (some 90) rfl rfl Tryd.func41 (by kernel_rfl) rfl #[.int .u8 a2] rfl (by (try simp only [List.map_toArray, List.map_cons, List.map_nil]); first | done | rfl | (simp only [List.length_drop, List.length_take]; rfl)) ?_; (with_reducible refine (millhandref22_Range.calls k a2 t595 t596 t597 _ A14.out).mono ?_); rintro e w39 ⟨rfl, hb⟩; refine ⟨_, rfl, ?_⟩; have n0_ := Aside0.mk (below_step (by repeat (first | (with_reducible first | exact HB.out | apply below_alloc | apply pw_below_drewN | apply below_drew1) | exact HB.out)) hb); clear HB; have HB := n0_; clear n0_; (try clear hb); (try clear hb2); (try clear hk); (try clear hi)) | (go_at_call 35; (with_reducible refine (keys_Head.calls k  t598 _ A28.out).mono ?_); rintro e w40 ⟨rfl, hb⟩; have n0_ := Aside0.mk (below_step (by repeat (first | (with_reducible first | exact HB.out | apply below_alloc | apply pw_below_drewN | apply below_drew1) | exact HB.out)) hb); clear HB; have HB := n0_; clear n0_; (try clear hb); (try clear hb2); (try clear hk); (try clear hi)) | (go_at_call 42; (with_reducible refine (millhandref22_Head.calls k  t599 _ A29.out).mono ?_); rintro e w41 ⟨rfl, hb⟩; have n0_ := Aside0.mk (below_step (by repeat (first | (with_reducible first | exact HB.out | apply below_alloc | apply pw_below_drewN | apply below_drew1) | exact HB.out)) hb); clear HB; have HB := n0_; clear n0_; (try clear hb); (try clear hb2); (try clear hk); (try clear hi)))
               go_ret
               exact ⟨by first | rfl | (simp [errW_none, errW_some] <;> rfl) | (simp [*, errW_none, errW_some] <;> rfl) | exact ret_ie _ | (simp [*, errW_none, errW_some, bne]; done), by repeat (first | (with_reducible first | exact HB.out | apply below_alloc | apply pw_below_drewN | apply below_drew1) | exact HB.out)⟩
              ·
               rw [if_neg c27] at H
               have c27b0 : (t594 == t597) = false := beq_eq_false_iff_ne.mpr c27
               have c27b1 : (t594 != t597) = true := bne_iff_ne.mpr c27
               exact absurd ((Option.some.inj H).trans hr) (by decide)
             ·
              rw [if_neg c26] at H
              have c26b0 : (t581 == t583) = false := beq_eq_false_iff_ne.mpr c26
              have c26b1 : (t581 != t583) = true := bne_iff_ne.mpr c26
              exact absurd ((Option.some.inj H).trans hr) (by decide)
            ·
             rw [if_neg c25] at H
             have c25b0 : (t593.toList == t596.toList) = false := beq_eq_false_iff_ne.mpr c25
             have c25b1 : (t593.toList != t596.toList) = true := bne_iff_ne.mpr c25
             by_cases c62 : t581 = t583
             ·
              rw [if_pos c62] at H
              have c62b0 : (t581 == t583) = true := beq_iff_eq.mpr c62
              have c62b1 : (t581 != t583) = false := bne_eq_false_iff_eq.mpr c62
              clear c62
              exact absurd ((Option.some.inj H).trans hr) (by decide)
             ·
              rw [if_neg c62] at H
              have c62b0 : (t581 == t583) = false := beq_eq_false_iff_ne.mpr c62
              have c62b1 : (t581 != t583) = true := bne_iff_ne.mpr c62
              exact absurd ((Option.some.inj H).trans hr) (by decide)
           ·
            rw [if_neg c24] at H
            have c24b0 : (t592.toList == t595.toList) = false := beq_eq_false_iff_ne.mpr c24
            have c24b1 : (t592.toList != t595.toList) = true := bne_iff_ne.mpr c24
            by_cases c83 : t581 = t583
            ·
             rw [if_pos c83] at H
             have c83b0 : (t581 == t583) = true := beq_iff_eq.mpr c83
             have c83b1 : (t581 != t583) = false := bne_eq_false_iff_eq.mpr c83
             clear c83
             exact absurd ((Option.some.inj H).trans hr) (by decide)
            ·
             rw [if_neg c83] at H
             have c83b0 : (t581 == t583) = false := beq_eq_false_iff_ne.mpr c83
             have c83b1 : (t581 != t583) = true := bne_iff_ne.mpr c83
             exact absurd ((Option.some.inj H).trans hr) (by decide)
          ·
           rw [if_neg c23] at H
           have c23b0 : (t587 == t591) = false := beq_eq_false_iff_ne.mpr c23
           have c23b1 : (t587 != t591) = true := bne_iff_ne.mpr c23
           by_cases c104 : t581 = t583
           ·
            rw [if_pos c104] at H
            have c104b0 : (t581 == t583) = true := beq_iff_eq.mpr c104
            have c104b1 : (t581 != t583) = false := bne_eq_false_iff_eq.mpr c104
            clear c104
            exact absurd ((Option.some.inj H).trans hr) (by decide)
           ·
            rw [if_neg c104] at H
            have c104b0 : (t581 == t583) = false := beq_eq_false_iff_ne.mpr c104
            have c104b1 : (t581 != t583) = true := bne_iff_ne.mpr c104
            exact absurd ((Option.some.inj H).trans hr) (by decide)
         ·
          rw [if_neg c22] at H
          have c22b0 : (t586.toList == t590.toList) = false := beq_eq_false_iff_ne.mpr c22
          have c22b1 : (t586.toList != t590.toList) = true := bne_iff_ne.mpr c22
          by_cases c125 : t581 = t583
          ·
           rw [if_pos c125] at H
           have c125b0 : (t581 == t583) = true := beq_iff_eq.mpr c125
           have c125b1 : (t581 != t583) = false := bne_eq_false_iff_eq.mpr c125
           clear c125
           exact absurd ((Option.some.inj H).trans hr) (by decide)
          ·
           rw [if_neg c125] at H
           have c125b0 : (t581 == t583) = false := beq_eq_false_iff_ne.mpr c125
           have c125b1 : (t581 != t583) = true := bne_iff_ne.mpr c125
           exact absurd ((Option.some.inj H).trans hr) (by decide)
        ·
         rw [if_neg c21] at H
         have c21b0 : (t585 == t589) = false := beq_eq_false_iff_ne.mpr c21
         have c21b1 : (t585 != t589) = true := bne_iff_ne.mpr c21
         by_cases c146 : t581 = t583
         ·
          rw [if_pos c146] at H
          have c146b0 : (t581 == t583) = true := beq_iff_eq.mpr c146
          have c146b1 : (t581 != t583) = false := bne_eq_false_iff_eq.mpr c146
          clear c146
          exact absurd ((Option.some.inj H).trans hr) (by decide)
         ·
          rw [if_neg c146] at H
          have c146b0 : (t581 == t583) = false := beq_eq_false_iff_ne.mpr c146
          have c146b1 : (t581 != t583) = true := bne_iff_ne.mpr c146
          exact absurd ((Option.some.inj H).trans hr) (by decide)
       ·
        rw [if_neg c20] at H
        have c20b0 : (t584 == t588) = false := beq_eq_false_iff_ne.mpr c20
        have c20b1 : (t584 != t588) = true := bne_iff_ne.mpr c20
        by_cases c167 : t581 = t583
        ·
         rw [if_pos c167] at H
         have c167b0 : (t581 == t583) = true := beq_iff_eq.mpr c167
         have c167b1 : (t581 != t583) = false := bne_eq_false_iff_eq.mpr c167
         clear c167
         exact absurd ((Option.some.inj H).trans hr) (by decide)
        ·
         rw [if_neg c167] at H
         have c167b0 : (t581 == t583) = false := beq_eq_false_iff_ne.mpr c167
         have c167b1 : (t581 != t583) = true := bne_iff_ne.mpr c167
         exact absurd ((Option.some.inj H).trans hr) (by decide)
      ·
       rw [if_neg c19] at H
       have c19b0 : (t580.toList == t582.toList) = false := beq_eq_false_iff_ne.mpr c19
       have c19b1 : (t580.toList != t582.toList) = true := bne_iff_ne.mpr c19
       by_cases c188 : t584 = t588
       ·
        rw [if_pos c188] at H
        have c188b0 : (t584 == t588) = true := beq_iff_eq.mpr c188
        have c188b1 : (t584 != t588) = false := bne_eq_false_iff_eq.mpr c188
        clear c188
        by_cases c189 : t585 = t589
        ·
         rw [if_pos c189] at H
         have c189b0 : (t585 == t589) = true := beq_iff_eq.mpr c189
         have c189b1 : (t585 != t589) = false := bne_eq_false_iff_eq.mpr c189
         clear c189
         by_cases c190 : t586.toList = t590.toList
         ·
          rw [if_pos c190] at H
          have c190b0 : (t586.toList == t590.toList) = true := beq_iff_eq.mpr c190
          have c190b1 : (t586.toList != t590.toList) = false := bne_eq_false_iff_eq.mpr c190
          clear c190
          by_cases c191 : t587 = t591
          ·
           rw [if_pos c191] at H
           have c191b0 : (t587 == t591) = true := beq_iff_eq.mpr c191
           have c191b1 : (t587 != t591) = false := bne_eq_false_iff_eq.mpr c191
           clear c191
           by_cases c192 : t592.toList = t595.toList
           ·
            rw [if_pos c192] at H
            have c192b0 : (t592.toList == t595.toList) = true := beq_iff_eq.mpr c192
            have c192b1 : (t592.toList != t595.toList) = false := bne_eq_false_iff_eq.mpr c192
            clear c192
            by_cases c193 : t593.toList = t596.toList
            ·
             rw [if_pos c193] at H
             have c193b0 : (t593.toList == t596.toList) = true := beq_iff_eq.mpr c193
             have c193b1 : (t593.toList != t596.toList) = false := bne_eq_false_iff_eq.mpr c193
             clear c193
             exact absurd ((Option.some.inj H).trans hr) (by decide)
            ·
             rw [if_neg c193] at H
             have c193b0 : (t593.toList == t596.toList) = false := beq_eq_false_iff_ne.mpr c193
             have c193b1 : (t593.toList != t596.toList) = true := bne_iff_ne.mpr c193
             exact absurd ((Option.some.inj H).trans hr) (by decide)
           ·
            rw [if_neg c192] at H
            have c192b0 : (t592.toList == t595.toList) = false := beq_eq_false_iff_ne.mpr c192
            have c192b1 : (t592.toList != t595.toList) = true := bne_iff_ne.mpr c192
            exact absurd ((Option.some.inj H).trans hr) (by decide)
          ·
           rw [if_neg c191] at H
           have c191b0 : (t587 == t591) = false := beq_eq_false_iff_ne.mpr c191
           have c191b1 : (t587 != t591) = true := bne_iff_ne.mpr c191
           exact absurd ((Option.some.inj H).trans hr) (by decide)
         ·
          rw [if_neg c190] at H
          have c190b0 : (t586.toList == t590.toList) = false := beq_eq_false_iff_ne.mpr c190
          have c190b1 : (t586.toList != t590.toList) = true := bne_iff_ne.mpr c190
          exact absurd ((Option.some.inj H).trans hr) (by decide)
        ·
         rw [if_neg c189] at H
         have c189b0 : (t585 == t589) = false := beq_eq_false_iff_ne.mpr c189
         have c189b1 : (t585 != t589) = true := bne_iff_ne.mpr c189
         exact absurd ((Option.some.inj H).trans hr) (by decide)
       ·
        rw [if_neg c188] at H
        have c188b0 : (t584 == t588) = false := beq_eq_false_iff_ne.mpr c188
        have c188b1 : (t584 != t588) = true := bne_iff_ne.mpr c188
        exact absurd ((Option.some.inj H).trans hr) (by decide)
     ·
      rw [if_neg c18] at H
      have c18b0 : (t577 == t579) = false := beq_eq_false_iff_ne.mpr c18
      have c18b1 : (t577 != t579) = true := bne_iff_ne.mpr c18
      by_cases c264 : t584 = t588
      ·
       rw [if_pos c264] at H
       have c264b0 : (t584 == t588) = true := beq_iff_eq.mpr c264
       have c264b1 : (t584 != t588) = false := bne_eq_false_iff_eq.mpr c264
       clear c264
       by_cases c265 : t585 = t589
       ·
        rw [if_pos c265] at H
        have c265b0 : (t585 == t589) = true := beq_iff_eq.mpr c265
        have c265b1 : (t585 != t589) = false := bne_eq_false_iff_eq.mpr c265
        clear c265
        by_cases c266 : t586.toList = t590.toList
        ·
         rw [if_pos c266] at H
         have c266b0 : (t586.toList == t590.toList) = true := beq_iff_eq.mpr c266
         have c266b1 : (t586.toList != t590.toList) = false := bne_eq_false_iff_eq.mpr c266
         clear c266
         by_cases c267 : t587 = t591
         ·
          rw [if_pos c267] at H
          have c267b0 : (t587 == t591) = true := beq_iff_eq.mpr c267
          have c267b1 : (t587 != t591) = false := bne_eq_false_iff_eq.mpr c267
          clear c267
          by_cases c268 : t592.toList = t595.toList
          ·
           rw [if_pos c268] at H
           have c268b0 : (t592.toList == t595.toList) = true := beq_iff_eq.mpr c268
           have c268b1 : (t592.toList != t595.toList) = false := bne_eq_false_iff_eq.mpr c268
           clear c268
           by_cases c269 : t593.toList = t596.toList
           ·
            rw [if_pos c269] at H
            have c269b0 : (t593.toList == t596.toList) = true := beq_iff_eq.mpr c269
            have c269b1 : (t593.toList != t596.toList) = false := bne_eq_false_iff_eq.mpr c269
            clear c269
            exact absurd ((Option.some.inj H).trans hr) (by decide)
           ·
            rw [if_neg c269] at H
            have c269b0 : (t593.toList == t596.toList) = false := beq_eq_false_iff_ne.mpr c269
            have c269b1 : (t593.toList != t596.toList) = true := bne_iff_ne.mpr c269
            exact absurd ((Option.some.inj H).trans hr) (by decide)
          ·
           rw [if_neg c268] at H
           have c268b0 : (t592.toList == t595.toList) = false := beq_eq_false_iff_ne.mpr c268
           have c268b1 : (t592.toList != t595.toList) = true := bne_iff_ne.mpr c268
           exact absurd ((Option.some.inj H).trans hr) (by decide)
         ·
          rw [if_neg c267] at H
          have c267b0 : (t587 == t591) = false := beq_eq_false_iff_ne.mpr c267
          have c267b1 : (t587 != t591) = true := bne_iff_ne.mpr c267
          exact absurd ((Option.some.inj H).trans hr) (by decide)
        ·
         rw [if_neg c266] at H
         have c266b0 : (t586.toList == t590.toList) = false := beq_eq_false_iff_ne.mpr c266
         have c266b1 : (t586.toList != t590.toList) = true := bne_iff_ne.mpr c266
         exact absurd ((Option.some.inj H).trans hr) (by decide)
       ·
        rw [if_neg c265] at H
        have c265b0 : (t585 == t589) = false := beq_eq_false_iff_ne.mpr c265
        have c265b1 : (t585 != t589) = true := bne_iff_ne.mpr c265
        exact absurd ((Option.some.inj H).trans hr) (by decide)
      ·
       rw [if_neg c264] at H
       have c264b0 : (t584 == t588) = false := beq_eq_false_iff_ne.mpr c264
       have c264b1 : (t584 != t588) = true := bne_iff_ne.mpr c264
       exact absurd ((Option.some.inj H).trans hr) (by decide)
    ·
     rw [if_neg c17] at H
     have c17b0 : (t576.toList == t578.toList) = false := beq_eq_false_iff_ne.mpr c17
     have c17b1 : (t576.toList != t578.toList) = true := bne_iff_ne.mpr c17
     by_cases c340 : t584 = t588
     ·
      rw [if_pos c340] at H
      have c340b0 : (t584 == t588) = true := beq_iff_eq.mpr c340
      have c340b1 : (t584 != t588) = false := bne_eq_false_iff_eq.mpr c340
      clear c340
      by_cases c341 : t585 = t589
      ·
       rw [if_pos c341] at H
       have c341b0 : (t585 == t589) = true := beq_iff_eq.mpr c341
       have c341b1 : (t585 != t589) = false := bne_eq_false_iff_eq.mpr c341
       clear c341
       by_cases c342 : t586.toList = t590.toList
       ·
        rw [if_pos c342] at H
        have c342b0 : (t586.toList == t590.toList) = true := beq_iff_eq.mpr c342
        have c342b1 : (t586.toList != t590.toList) = false := bne_eq_false_iff_eq.mpr c342
        clear c342
        by_cases c343 : t587 = t591
        ·
         rw [if_pos c343] at H
         have c343b0 : (t587 == t591) = true := beq_iff_eq.mpr c343
         have c343b1 : (t587 != t591) = false := bne_eq_false_iff_eq.mpr c343
         clear c343
         by_cases c344 : t592.toList = t595.toList
         ·
          rw [if_pos c344] at H
          have c344b0 : (t592.toList == t595.toList) = true := beq_iff_eq.mpr c344
          have c344b1 : (t592.toList != t595.toList) = false := bne_eq_false_iff_eq.mpr c344
          clear c344
          by_cases c345 : t593.toList = t596.toList
          ·
           rw [if_pos c345] at H
           have c345b0 : (t593.toList == t596.toList) = true := beq_iff_eq.mpr c345
           have c345b1 : (t593.toList != t596.toList) = false := bne_eq_false_iff_eq.mpr c345
           clear c345
           exact absurd ((Option.some.inj H).trans hr) (by decide)
          ·
           rw [if_neg c345] at H
           have c345b0 : (t593.toList == t596.toList) = false := beq_eq_false_iff_ne.mpr c345
           have c345b1 : (t593.toList != t596.toList) = true := bne_iff_ne.mpr c345
           exact absurd ((Option.some.inj H).trans hr) (by decide)
         ·
          rw [if_neg c344] at H
          have c344b0 : (t592.toList == t595.toList) = false := beq_eq_false_iff_ne.mpr c344
          have c344b1 : (t592.toList != t595.toList) = true := bne_iff_ne.mpr c344
          exact absurd ((Option.some.inj H).trans hr) (by decide)
        ·
         rw [if_neg c343] at H
         have c343b0 : (t587 == t591) = false := beq_eq_false_iff_ne.mpr c343
         have c343b1 : (t587 != t591) = true := bne_iff_ne.mpr c343
         exact absurd ((Option.some.inj H).trans hr) (by decide)
       ·
        rw [if_neg c342] at H
        have c342b0 : (t586.toList == t590.toList) = false := beq_eq_false_iff_ne.mpr c342
        have c342b1 : (t586.toList != t590.toList) = true := bne_iff_ne.mpr c342
        exact absurd ((Option.some.inj H).trans hr) (by decide)
      ·
       rw [if_neg c341] at H
       have c341b0 : (t585 == t589) = false := beq_eq_false_iff_ne.mpr c341
       have c341b1 : (t585 != t589) = true := bne_iff_ne.mpr c341
       exact absurd ((Option.some.inj H).trans hr) (by decide)
     ·
      rw [if_neg c340] at H
      have c340b0 : (t584 == t588) = false := beq_eq_false_iff_ne.mpr c340
      have c340b1 : (t584 != t588) = true := bne_iff_ne.mpr c340
      exact absurd ((Option.some.inj H).trans hr) (by decide)
   ·
    rw [if_neg c16] at H
    have c16b0 : (t573 == t575) = false := beq_eq_false_iff_ne.mpr c16
    have c16b1 : (t573 != t575) = true := bne_iff_ne.mpr c16
    by_cases c416 : t584 = t588
    ·
     rw [if_pos c416] at H
     have c416b0 : (t584 == t588) = true := beq_iff_eq.mpr c416
     have c416b1 : (t584 != t588) = false := bne_eq_false_iff_eq.mpr c416
     clear c416
     by_cases c417 : t585 = t589
     ·
      rw [if_pos c417] at H
      have c417b0 : (t585 == t589) = true := beq_iff_eq.mpr c417
      have c417b1 : (t585 != t589) = false := bne_eq_false_iff_eq.mpr c417
      clear c417
      by_cases c418 : t586.toList = t590.toList
      ·
       rw [if_pos c418] at H
       have c418b0 : (t586.toList == t590.toList) = true := beq_iff_eq.mpr c418
       have c418b1 : (t586.toList != t590.toList) = false := bne_eq_false_iff_eq.mpr c418
       clear c418
       by_cases c419 : t587 = t591
       ·
        rw [if_pos c419] at H
        have c419b0 : (t587 == t591) = true := beq_iff_eq.mpr c419
        have c419b1 : (t587 != t591) = false := bne_eq_false_iff_eq.mpr c419
        clear c419
        by_cases c420 : t592.toList = t595.toList
        ·
         rw [if_pos c420] at H
         have c420b0 : (t592.toList == t595.toList) = true := beq_iff_eq.mpr c420
         have c420b1 : (t592.toList != t595.toList) = false := bne_eq_false_iff_eq.mpr c420
         clear c420
         by_cases c421 : t593.toList = t596.toList
         ·
          rw [if_pos c421] at H
          have c421b0 : (t593.toList == t596.toList) = true := beq_iff_eq.mpr c421
          have c421b1 : (t593.toList != t596.toList) = false := bne_eq_false_iff_eq.mpr c421
          clear c421
          exact absurd ((Option.some.inj H).trans hr) (by decide)
         ·
          rw [if_neg c421] at H
          have c421b0 : (t593.toList == t596.toList) = false := beq_eq_false_iff_ne.mpr c421
          have c421b1 : (t593.toList != t596.toList) = true := bne_iff_ne.mpr c421
          exact absurd ((Option.some.inj H).trans hr) (by decide)
        ·
         rw [if_neg c420] at H
         have c420b0 : (t592.toList == t595.toList) = false := beq_eq_false_iff_ne.mpr c420
         have c420b1 : (t592.toList != t595.toList) = true := bne_iff_ne.mpr c420
         exact absurd ((Option.some.inj H).trans hr) (by decide)
       ·
        rw [if_neg c419] at H
        have c419b0 : (t587 == t591) = false := beq_eq_false_iff_ne.mpr c419
        have c419b1 : (t587 != t591) = true := bne_iff_ne.mpr c419
        exact absurd ((Option.some.inj H).trans hr) (by decide)
      ·
       rw [if_neg c418] at H
       have c418b0 : (t586.toList == t590.toList) = false := beq_eq_false_iff_ne.mpr c418
       have c418b1 : (t586.toList != t590.toList) = true := bne_iff_ne.mpr c418
       exact absurd ((Option.some.inj H).trans hr) (by decide)
     ·
      rw [if_neg c417] at H
      have c417b0 : (t585 == t589) = false := beq_eq_false_iff_ne.mpr c417
      have c417b1 : (t585 != t589) = true := bne_iff_ne.mpr c417
      exact absurd ((Option.some.inj H).trans hr) (by decide)
    ·
     rw [if_neg c416] at H
     have c416b0 : (t584 == t588) = false := beq_eq_false_iff_ne.mpr c416
     have c416b1 : (t584 != t588) = true := bne_iff_ne.mpr c416
     exact absurd ((Option.some.inj H).trans hr) (by decide)
  ·
   rw [if_neg c15] at H
   have c15b0 : (t572.toList == t574.toList) = false := beq_eq_false_iff_ne.mpr c15
   have c15b1 : (t572.toList != t574.toList) = true := bne_iff_ne.mpr c15
   by_cases c492 : t584 = t588
   ·
    rw [if_pos c492] at H
    have c492b0 : (t584 == t588) = true := beq_iff_eq.mpr c492
    have c492b1 : (t584 != t588) = false := bne_eq_false_iff_eq.mpr c492
    clear c492
    by_cases c493 : t585 = t589
    ·
     rw [if_pos c493] at H
     have c493b0 : (t585 == t589) = true := beq_iff_eq.mpr c493
     have c493b1 : (t585 != t589) = false := bne_eq_false_iff_eq.mpr c493
     clear c493
     by_cases c494 : t586.toList = t590.toList
     ·
      rw [if_pos c494] at H
      have c494b0 : (t586.toList == t590.toList) = true := beq_iff_eq.mpr c494
      have c494b1 : (t586.toList != t590.toList) = false := bne_eq_false_iff_eq.mpr c494
      clear c494
      by_cases c495 : t587 = t591
      ·
       rw [if_pos c495] at H
       have c495b0 : (t587 == t591) = true := beq_iff_eq.mpr c495
       have c495b1 : (t587 != t591) = false := bne_eq_false_iff_eq.mpr c495
       clear c495
       by_cases c496 : t592.toList = t595.toList
       ·
        rw [if_pos c496] at H
        have c496b0 : (t592.toList == t595.toList) = true := beq_iff_eq.mpr c496
        have c496b1 : (t592.toList != t595.toList) = false := bne_eq_false_iff_eq.mpr c496
        clear c496
        by_cases c497 : t593.toList = t596.toList
        ·
         rw [if_pos c497] at H
         have c497b0 : (t593.toList == t596.toList) = true := beq_iff_eq.mpr c497
         have c497b1 : (t593.toList != t596.toList) = false := bne_eq_false_iff_eq.mpr c497
         clear c497
         exact absurd ((Option.some.inj H).trans hr) (by decide)
        ·
         rw [if_neg c497] at H
         have c497b0 : (t593.toList == t596.toList) = false := beq_eq_false_iff_ne.mpr c497
         have c497b1 : (t593.toList != t596.toList) = true := bne_iff_ne.mpr c497
         exact absurd ((Option.some.inj H).trans hr) (by decide)
       ·
        rw [if_neg c496] at H
        have c496b0 : (t592.toList == t595.toList) = false := beq_eq_false_iff_ne.mpr c496
        have c496b1 : (t592.toList != t595.toList) = true := bne_iff_ne.mpr c496
        exact absurd ((Option.some.inj H).trans hr) (by decide)
      ·
       rw [if_neg c495] at H
       have c495b0 : (t587 == t591) = false := beq_eq_false_iff_ne.mpr c495
       have c495b1 : (t587 != t591) = true := bne_iff_ne.mpr c495
       exact absurd ((Option.some.inj H).trans hr) (by decide)
     ·
      rw [if_neg c494] at H
      have c494b0 : (t586.toList == t590.toList) = false := beq_eq_false_iff_ne.mpr c494
      have c494b1 : (t586.toList != t590.toList) = true := bne_iff_ne.mpr c494
      exact absurd ((Option.some.inj H).trans hr) (by decide)
    ·
     rw [if_neg c493] at H
     have c493b0 : (t585 == t589) = false := beq_eq_false_iff_ne.mpr c493
     have c493b1 : (t585 != t589) = true := bne_iff_ne.mpr c493
     exact absurd ((Option.some.inj H).trans hr) (by decide)
   ·
    rw [if_neg c492] at H
    have c492b0 : (t584 == t588) = false := beq_eq_false_iff_ne.mpr c492
    have c492b1 : (t584 != t588) = true := bne_iff_ne.mpr c492
    exact absurd ((Option.some.inj H).trans hr) (by decide)

end Go.Proofs.YtagdmgjdhbmaiaaDoor.R

/- Contracts of Go functions and what they come to, over the translation of this seat: made by a program of this session (print2.py). -/
import Derived.Test.YtdlghckcbbjipaaRV1
import Derived.Test.YtdlghckcbbjipaaRx0
import Derived.Test.YtdlghckcbbjipaaRx2
namespace Go.Proofs.Ytdlghckcbbjipaa.R
open Go.RowKit Go.Proofs.Ytdlghckcbbjipaa.Co Go.Proofs.Ytdlghckcbbjipaa.Ret Go.Proofs.Ytdlghckcbbjipaa.Plain Go.Proofs.YtdlghckcbbjipaaW.PrintWords Go.Proofs.YtdlghckcbbjipaaW.PrintLast Go.Proofs.YtdlghckcbbjipaaW.PrintMore
attribute [local go_sem] max2_int min2_int max_two min_two max_three min_three max_four min_four   -- for this text's walks alone
set_option linter.unusedVariables false
set_option linter.unusedSimpArgs false

/-! ### version_may: function 48 -/
def version_may.f (l0_0 : List (List (S32))) (a0_1 : Int) (a0_2 : Int) (a0_3 : ByteArray) : Option (Bool) := if l0_0.flatten.length ≤ 100000 then some (mayV l0_0 a0_1 a0_2 a0_3) else none
set_option maxHeartbeats 8000000 in
set_option maxRecDepth 100000 in
theorem version_may.calls (A0_0 : Option Addr) (c0_0 : Nat) (l0_0 : List (List (S32))) (a0_1 : Int) (a0_2 : Int) (a0_3 : ByteArray) (r : Bool) (w : World) (hr0_0 : Kd.C (Kd.slice 32 k32) w A0_0 l0_0.length l0_0) (hc0_0 : l0_0.length ≤ c0_0) (h : version_may.f l0_0 a0_1 a0_2 a0_3 = some r) :
  Calls Try.prog 48 #[.agg #[.slice A0_0 l0_0.length c0_0, .int .i64 a0_1, .int .i64 a0_2, .string a0_3]] w fun e w' => e = .returned (.bool r) ∧ Below w.heap.size w w' := by
 have hu24 := Try.underlying24
 have hu32 := Try.underlying32
 have gq1_ := @Ord.gtr_
 have gq2_ := @Ord.leq_
 have gq3_ := @Ord.geq_
 unfold version_may.f at h
 split at h
 case isFalse => cases h
 rename_i hmany
 have HRES : Aside0 (mayV l0_0 a0_1 a0_2 a0_3 = r) := ⟨Option.some.inj h⟩
 clear h
 have HR0 := Aside0.mk hr0_0
 have HWI := Aside0.mk (within_f a0_3 16)
 clear hr0_0
 have BAD : headS l0_0 a0_1 a0_2 a0_3 = false → r = false := fun e => by
  have := HRES.out
  unfold mayV at this
  rw [e, Bool.false_and] at this
  exact this.symm
 by_cases h1 : l0_0.length = 4
 rotate_left
 ·
  obtain rfl := BAD (by unfold headS; rw [decide_eq_false h1]; rfl)
  clear BAD HRES
  have c1 : ((l0_0.length : Int) != 4) = true := by rw [bne_iff_ne]; omega
  go_enter Try.func48, Try.ntmps48
  go_wp2_with (first | ((with_reducible refine gate_dst (N := 1) rfl ?_); refine box_event ?hg (N := 1) ?hd (cs := #[.slice A0_0 l0_0.length c0_0, .int .i64 a0_1, .int .i64 a0_2, .string a0_3]) (t := 24) ?hr ?_; (case hd => rfl); (case hg => rfl); (case hr => first | (go_simp; done) | (go_simp; rfl)); intro gb hg_ w1 hbox_ hb_; have BK := Aside0.mk hbox_; have HB := Aside0.mk hb_; have GE := Aside0.mk (Nat.le_of_eq hg_.symm); clear hbox_ hb_ hg_; have hz0 : w1.cell? ⟨gb, 0, none⟩ = some (.slice A0_0 l0_0.length c0_0) := (blk_cell BK.out 0).trans rfl; have hz1 : w1.cell? ⟨gb, 1, none⟩ = some (.int .i64 a0_1) := (blk_cell BK.out 1).trans rfl; have hz2 : w1.cell? ⟨gb, 2, none⟩ = some (.int .i64 a0_2) := (blk_cell BK.out 2).trans rfl; have hz3 : w1.cell? ⟨gb, 3, none⟩ = some (.string a0_3) := (blk_cell BK.out 3).trans rfl))
  go_ret
  exact ⟨rfl, by first | exact HB.out | exact pw_below_drewN HB.out _⟩
 have c1 : ((l0_0.length : Int) != 4) = false := by rw [bne_eq_false_iff_eq]; omega
 have H1 := Aside0.mk h1
 clear h1
 cases h2 : textS 16 a0_3
 ·
  obtain rfl := BAD (by unfold headS; rw [h2, Bool.false_and, Bool.and_false])
  clear BAD HRES
  rw [h2] at HWI
  go_enter Try.func48, Try.ntmps48
  go_wp2_with (first | ((with_reducible refine gate_dst (N := 1) rfl ?_); refine box_event ?hg (N := 1) ?hd (cs := #[.slice A0_0 l0_0.length c0_0, .int .i64 a0_1, .int .i64 a0_2, .string a0_3]) (t := 24) ?hr ?_; (case hd => rfl); (case hg => rfl); (case hr => first | (go_simp; done) | (go_simp; rfl)); intro gb hg_ w1 hbox_ hb_; have BK := Aside0.mk hbox_; have HB := Aside0.mk hb_; have GE := Aside0.mk (Nat.le_of_eq hg_.symm); clear hbox_ hb_ hg_; have hz0 : w1.cell? ⟨gb, 0, none⟩ = some (.slice A0_0 l0_0.length c0_0) := (blk_cell BK.out 0).trans rfl; have hz1 : w1.cell? ⟨gb, 1, none⟩ = some (.int .i64 a0_1) := (blk_cell BK.out 1).trans rfl; have hz2 : w1.cell? ⟨gb, 2, none⟩ = some (.int .i64 a0_2) := (blk_cell BK.out 2).trans rfl; have hz3 : w1.cell? ⟨gb, 3, none⟩ = some (.string a0_3) := (blk_cell BK.out 3).trans rfl) | (go_at_call 33; (with_reducible refine (version_within.calls a0_3 16 false _ HWI.out).mono ?_); rintro e w' ⟨rfl, ⟨nd, rfl⟩⟩))
  go_ret
  exact ⟨rfl, by first | exact HB.out | exact pw_below_drewN HB.out _⟩
 rw [h2] at HWI
 by_cases h3 : a0_1 < 1
 ·
  obtain rfl := BAD (by unfold headS; rw [h2, decide_eq_true H1.out, Bool.true_and, Bool.true_and, decide_eq_false (fun h => by omega)])
  clear BAD HRES
  have d0 : decide (a0_1 < 1) = true := decide_eq_true h3
  go_enter Try.func48, Try.ntmps48
  go_wp2_with (first | ((with_reducible refine gate_dst (N := 1) rfl ?_); refine box_event ?hg (N := 1) ?hd (cs := #[.slice A0_0 l0_0.length c0_0, .int .i64 a0_1, .int .i64 a0_2, .string a0_3]) (t := 24) ?hr ?_; (case hd => rfl); (case hg => rfl); (case hr => first | (go_simp; done) | (go_simp; rfl)); intro gb hg_ w1 hbox_ hb_; have BK := Aside0.mk hbox_; have HB := Aside0.mk hb_; have GE := Aside0.mk (Nat.le_of_eq hg_.symm); clear hbox_ hb_ hg_; have hz0 : w1.cell? ⟨gb, 0, none⟩ = some (.slice A0_0 l0_0.length c0_0) := (blk_cell BK.out 0).trans rfl; have hz1 : w1.cell? ⟨gb, 1, none⟩ = some (.int .i64 a0_1) := (blk_cell BK.out 1).trans rfl; have hz2 : w1.cell? ⟨gb, 2, none⟩ = some (.int .i64 a0_2) := (blk_cell BK.out 2).trans rfl; have hz3 : w1.cell? ⟨gb, 3, none⟩ = some (.string a0_3) := (blk_cell BK.out 3).trans rfl) | (go_at_call 33; (with_reducible refine (version_within.calls a0_3 16 true _ HWI.out).mono ?_); rintro e w' ⟨rfl, ⟨nd, rfl⟩⟩))
  go_ret
  exact ⟨rfl, by first | exact HB.out | exact pw_below_drewN HB.out _⟩
 have d0 : decide (a0_1 < 1) = false := decide_eq_false h3
 by_cases h4 : 1099511627776 < a0_1
 ·
  obtain rfl := BAD (by unfold headS; rw [h2, decide_eq_true H1.out, Bool.true_and, Bool.true_and, decide_eq_false (fun h => by omega)])
  clear BAD HRES
  have d1 : decide (1099511627776 < a0_1) = true := decide_eq_true h4
  go_enter Try.func48, Try.ntmps48
  go_wp2_with (first | ((with_reducible refine gate_dst (N := 1) rfl ?_); refine box_event ?hg (N := 1) ?hd (cs := #[.slice A0_0 l0_0.length c0_0, .int .i64 a0_1, .int .i64 a0_2, .string a0_3]) (t := 24) ?hr ?_; (case hd => rfl); (case hg => rfl); (case hr => first | (go_simp; done) | (go_simp; rfl)); intro gb hg_ w1 hbox_ hb_; have BK := Aside0.mk hbox_; have HB := Aside0.mk hb_; have GE := Aside0.mk (Nat.le_of_eq hg_.symm); clear hbox_ hb_ hg_; have hz0 : w1.cell? ⟨gb, 0, none⟩ = some (.slice A0_0 l0_0.length c0_0) := (blk_cell BK.out 0).trans rfl; have hz1 : w1.cell? ⟨gb, 1, none⟩ = some (.int .i64 a0_1) := (blk_cell BK.out 1).trans rfl; have hz2 : w1.cell? ⟨gb, 2, none⟩ = some (.int .i64 a0_2) := (blk_cell BK.out 2).trans rfl; have hz3 : w1.cell? ⟨gb, 3, none⟩ = some (.string a0_3) := (blk_cell BK.out 3).trans rfl) | (go_at_call 33; (with_reducible refine (version_within.calls a0_3 16 true _ HWI.out).mono ?_); rintro e w' ⟨rfl, ⟨nd, rfl⟩⟩))
  go_ret
  exact ⟨rfl, by first | exact HB.out | exact pw_below_drewN HB.out _⟩
 have d1 : decide (1099511627776 < a0_1) = false := decide_eq_false h4
 by_cases h5 : a0_2 < 0
 ·
  obtain rfl := BAD (by unfold headS; rw [h2, decide_eq_true H1.out, Bool.true_and, Bool.true_and, decide_eq_false (fun h => by omega)])
  clear BAD HRES
  have d2 : decide (a0_2 < 0) = true := decide_eq_true h5
  go_enter Try.func48, Try.ntmps48
  go_wp2_with (first | ((with_reducible refine gate_dst (N := 1) rfl ?_); refine box_event ?hg (N := 1) ?hd (cs := #[.slice A0_0 l0_0.length c0_0, .int .i64 a0_1, .int .i64 a0_2, .string a0_3]) (t := 24) ?hr ?_; (case hd => rfl); (case hg => rfl); (case hr => first | (go_simp; done) | (go_simp; rfl)); intro gb hg_ w1 hbox_ hb_; have BK := Aside0.mk hbox_; have HB := Aside0.mk hb_; have GE := Aside0.mk (Nat.le_of_eq hg_.symm); clear hbox_ hb_ hg_; have hz0 : w1.cell? ⟨gb, 0, none⟩ = some (.slice A0_0 l0_0.length c0_0) := (blk_cell BK.out 0).trans rfl; have hz1 : w1.cell? ⟨gb, 1, none⟩ = some (.int .i64 a0_1) := (blk_cell BK.out 1).trans rfl; have hz2 : w1.cell? ⟨gb, 2, none⟩ = some (.int .i64 a0_2) := (blk_cell BK.out 2).trans rfl; have hz3 : w1.cell? ⟨gb, 3, none⟩ = some (.string a0_3) := (blk_cell BK.out 3).trans rfl) | (go_at_call 33; (with_reducible refine (version_within.calls a0_3 16 true _ HWI.out).mono ?_); rintro e w' ⟨rfl, ⟨nd, rfl⟩⟩))
  go_ret
  exact ⟨rfl, by first | exact HB.out | exact pw_below_drewN HB.out _⟩
 have d2 : decide (a0_2 < 0) = false := decide_eq_false h5
 by_cases h6 : 1099511627776 < a0_2
 ·
  obtain rfl := BAD (by unfold headS; rw [h2, decide_eq_true H1.out, Bool.true_and, Bool.true_and, decide_eq_false (fun h => by omega)])
  clear BAD HRES
  have d3 : decide (1099511627776 < a0_2) = true := decide_eq_true h6
  go_enter Try.func48, Try.ntmps48
  go_wp2_with (first | ((with_reducible refine gate_dst (N := 1) rfl ?_); refine box_event ?hg (N := 1) ?hd (cs := #[.slice A0_0 l0_0.length c0_0, .int .i64 a0_1, .int .i64 a0_2, .string a0_3]) (t := 24) ?hr ?_; (case hd => rfl); (case hg => rfl); (case hr => first | (go_simp; done) | (go_simp; rfl)); intro gb hg_ w1 hbox_ hb_; have BK := Aside0.mk hbox_; have HB := Aside0.mk hb_; have GE := Aside0.mk (Nat.le_of_eq hg_.symm); clear hbox_ hb_ hg_; have hz0 : w1.cell? ⟨gb, 0, none⟩ = some (.slice A0_0 l0_0.length c0_0) := (blk_cell BK.out 0).trans rfl; have hz1 : w1.cell? ⟨gb, 1, none⟩ = some (.int .i64 a0_1) := (blk_cell BK.out 1).trans rfl; have hz2 : w1.cell? ⟨gb, 2, none⟩ = some (.int .i64 a0_2) := (blk_cell BK.out 2).trans rfl; have hz3 : w1.cell? ⟨gb, 3, none⟩ = some (.string a0_3) := (blk_cell BK.out 3).trans rfl) | (go_at_call 33; (with_reducible refine (version_within.calls a0_3 16 true _ HWI.out).mono ?_); rintro e w' ⟨rfl, ⟨nd, rfl⟩⟩))
  go_ret
  exact ⟨rfl, by first | exact HB.out | exact pw_below_drewN HB.out _⟩
 have d3 : decide (1099511627776 < a0_2) = false := decide_eq_false h6
 have HV : Aside0 (lvlsS 0 [a0_3] l0_0 = r) := ⟨by
  have := HRES.out
  unfold mayV headS at this
  rw [h2, decide_eq_true H1.out, decide_eq_true (show 1 ≤ a0_1 ∧ a0_1 ≤ 1099511627776 ∧ 0 ≤ a0_2 ∧ a0_2 ≤ 1099511627776 from ⟨by omega, by omega, by omega, by omega⟩)] at this
  exact this⟩
 have hlog : a0_3.size ≤ 16 := by have := of_decide_eq_true h2; omega
 clear BAD HRES h2 h3 h4 h5 h6
 go_enter Try.func48, Try.ntmps48
 go_upto_region 3 with (first | ((with_reducible refine gate_dst (N := 1) rfl ?_); refine box_event ?hg (N := 1) ?hd (cs := #[.slice A0_0 l0_0.length c0_0, .int .i64 a0_1, .int .i64 a0_2, .string a0_3]) (t := 24) ?hr ?_; (case hd => rfl); (case hg => rfl); (case hr => first | (go_simp; done) | (go_simp; rfl)); intro gb hg_ w1 hbox_ hb_; have BK := Aside0.mk hbox_; have HB := Aside0.mk hb_; have GE := Aside0.mk (Nat.le_of_eq hg_.symm); clear hbox_ hb_ hg_; have hz0 : w1.cell? ⟨gb, 0, none⟩ = some (.slice A0_0 l0_0.length c0_0) := (blk_cell BK.out 0).trans rfl; have hz1 : w1.cell? ⟨gb, 1, none⟩ = some (.int .i64 a0_1) := (blk_cell BK.out 1).trans rfl; have hz2 : w1.cell? ⟨gb, 2, none⟩ = some (.int .i64 a0_2) := (blk_cell BK.out 2).trans rfl; have hz3 : w1.cell? ⟨gb, 3, none⟩ = some (.string a0_3) := (blk_cell BK.out 3).trans rfl) | (go_at_call 33; (with_reducible refine (version_within.calls a0_3 16 true _ HWI.out).mono ?_); rintro e w' ⟨rfl, ⟨nd, rfl⟩⟩))
 obtain ⟨w2, hw2⟩ : ∃ w2, w2 = w1.drewN nd := ⟨_, rfl⟩
 have BK2 := Aside0.mk (show w2.heap[gb]? = some (.cells #[.slice A0_0 l0_0.length c0_0, .int .i64 a0_1, .int .i64 a0_2, .string a0_3] 24 (0, 0)) by rw [hw2]; exact BK.out)
 have HB2 := Aside0.mk (show Below w.heap.size w w2 by rw [hw2]; exact pw_below_drewN HB.out _)
 rw [← hw2]
 clear hw2 BK HB hz0 hz1 hz2 hz3 c1 d0 d1 d2 d3 HWI
 obtain ⟨B, hB⟩ : ∃ B, B = w2.heap.size := ⟨_, rfl⟩
 have S0 : Aside0 (VSt w gb B #[.slice A0_0 l0_0.length c0_0, .int .i64 a0_1, .int .i64 a0_2, .string a0_3] [] (w2.alloc (.map #[] 0))) := ⟨⟨blk_below BK2.out (below_alloc (Below.refl _ _) _), hB ▸ SetM.made w2, below_alloc HB2.out _, GE.out, by rw [hB]; exact below_size HB2.out, by have := blk_lt BK2.out; omega⟩⟩
 have hmm : ∀ t, (Instr.makeMap t none).run Try.prog w2 = .ok (.map (some B)) (w2.alloc (.map #[] 0)) := fun t => by rw [hB]; exact run_makeMap t w2
 have hz3 : (w2.alloc (.map #[] 0)).cell? ⟨gb, 3, none⟩ = some (.string a0_3) := (blk_cell S0.out.box 3).trans rfl
 clear hB
 generalize w2.alloc (.map #[] 0) = w3 at S0 hmm hz3
 go_upto_region 4 with (refine wpList_insert_set rfl (.tmp 38) (.tmp 40) (.const (.bool true)) rfl B [] a0_3 rfl rfl rfl S0.out.map (by omega) (by simp) ?_; intro w4 hs_ hg_; have S1 := Aside0.mk (S0.out.put hs_ hg_); clear hs_ hg_)
 clear S0 hmm hz3
 have hz0 : w4.cell? ⟨gb, 0, none⟩ = some (.slice A0_0 l0_0.length c0_0) := (blk_cell S1.out.box 0).trans rfl
 have HL4 : l0_0.length ≤ 4 := by have := H1.out; omega
 obtain ⟨csv, S1'⟩ : ∃ csv, Aside0 (VSt w gb B csv [a0_3] w4) := ⟨_, S1⟩
 clear S1
 have S1 := S1'
 clear S1'
 go_wp2_with fail
 clear hz0
 go_loopw [45] (fun v45 w' => ∃ (k : Nat) (names : List ByteArray), v45 = .int .i64 (k : Int) ∧ k ≤ l0_0.length ∧ names.length + (l0_0.drop k).flatten.length ≤ 1 + l0_0.flatten.length ∧ Aside0 (lvlsS k names (l0_0.drop k) = r) ∧ Aside0 (VSt w gb B csv names w')) (fun v45 w' => l0_0.length - (match v45 with | .int _ j => j.toNat | _ => 0))
 case atStart => exact ⟨0, [a0_3], rfl, Nat.zero_le _, by simp, HV, S1⟩
 case round =>
  clear S1 HV
  obtain ⟨k, names, rfl, hkl, hnl, HV, HS⟩ := hrel
  by_cases hk : k < l0_0.length
  rotate_left
  ·
   have hk1 : decide ((k : Int) < (l0_0.length : Int)) = false := decide_eq_false (by omega)
   have hk2 : decide (k < l0_0.length) = false := decide_eq_false hk
   obtain rfl : true = r := by
    have := HV.out
    rw [List.drop_eq_nil_of_le (by omega), lvlsS] at this
    exact this
   go_wp2
   go_ret
   exact ⟨rfl, HS.out.bel⟩
  have hk1 : decide ((k : Int) < (l0_0.length : Int)) = true := decide_eq_true (by omega)
  have hk2 : decide (k < l0_0.length) = true := decide_eq_true hk
  obtain ⟨ad, Ak, ck, e1, hx0, hlk, hCk⟩ := at_lvl HR0.out k hk
  subst e1
  obtain ⟨lk, hlk3⟩ : ∃ lk, l0_0[k] = lk := ⟨_, rfl⟩
  rw [hlk3] at hx0 hlk hCk
  replace hx0 := cl_ HS.out.bel hx0
  have HCK := Aside0.mk hCk
  have HNL : Aside0 (names.length + lk.length + (l0_0.drop (k + 1)).flatten.length ≤ 1 + l0_0.flatten.length) := ⟨by rw [List.drop_eq_getElem_cons hk, List.flatten_cons, List.length_append, hlk3] at hnl; omega⟩
  have HV2 : Aside0 ((match lvlS k none names lk with | none => false | some n => lvlsS (k + 1) n (l0_0.drop (k + 1))) = r) := ⟨by
   have := HV.out
   rw [List.drop_eq_getElem_cons hk, lvlsS, hlk3] at this
   exact this⟩
  have hlk5 : lk.length ≤ 200000 := by have := HNL.out; omega
  clear hCk hlk3 hnl HV
  go_wp2_with fail
  clear hx0
  go_loopw [52] (fun v52 w' => ∃ (i : Nat) (names : List ByteArray), v52 = .int .i64 (i : Int) ∧ i ≤ lk.length ∧ Aside0 (names.length + (lk.drop i).length + (l0_0.drop (k + 1)).flatten.length ≤ 1 + l0_0.flatten.length) ∧ Aside0 ((match lvlS k (if i = 0 then none else some (rd_T32 lk ((i : Int) - 1)).f4) names (lk.drop i) with | none => false | some n => lvlsS (k + 1) n (l0_0.drop (k + 1))) = r) ∧ Aside0 (VSt w gb B csv names w')) (fun v52 w' => lk.length - (match v52 with | .int _ j => j.toNat | _ => 0))
  case atStart => exact ⟨0, names, rfl, Nat.zero_le _, HNL, HV2, HS⟩
  case round =>
   clear HS HV2 HNL
   obtain ⟨i, names, rfl, hil, HNL, HV, HS⟩ := hrel
   by_cases hi : i < lk.length
   rotate_left
   ·
    have hi1 : decide ((i : Int) < (lk.length : Int)) = false := decide_eq_false (by omega)
    have hi2 : decide (i < lk.length) = false := decide_eq_false hi
    have HV2 : Aside0 (lvlsS (k + 1) names (l0_0.drop (k + 1)) = r) := ⟨by
     have := HV.out
     rw [List.drop_eq_nil_of_le (show lk.length ≤ i by omega), lvlS] at this
     exact this⟩
    have hn2 : names.length + (l0_0.drop (k + 1)).flatten.length ≤ 1 + l0_0.flatten.length := by have := HNL.out; omega
    have hk9 : k + 1 ≤ l0_0.length := hk
    clear HV HNL
    go_wp2_with fail
    refine ⟨⟨k + 1, names, by simp, hk9, hn2, HV2, HS⟩, ?_⟩
    show l0_0.length - ((k : Int) + 1).toNat < l0_0.length - ((k : Int)).toNat
    omega
   have hi1 : decide ((i : Int) < (lk.length : Int)) = true := decide_eq_true (by omega)
   have hi2 : decide (i < lk.length) = true := decide_eq_true hi
   obtain ⟨ad2, e1, hy0, hy1, hy2, hy3, hy4⟩ := at_T32 HCK.out (i : Int) (by omega) (by omega)
   subst e1
   obtain ⟨x, hx⟩ : ∃ x, rd_T32 lk (i : Int) = x := ⟨_, rfl⟩
   have hx2 : lk[i] = x := by rw [← hx]; simp [rd_T32, List.getD_eq_getElem?_getD, List.getElem?_eq_getElem hi]
   rw [hx] at hy0 hy1 hy2 hy3 hy4
   rw [Int.toNat_natCast] at hy0 hy1 hy2 hy3 hy4
   replace hy0 := cl_ HS.out.bel hy0
   replace hy1 := cl_ HS.out.bel hy1
   replace hy2 := cl_ HS.out.bel hy2
   replace hy3 := cl_ HS.out.bel hy3
   replace hy4 := cl_ HS.out.bel hy4
   have HV2 : Aside0 ((match (if okS k (if i = 0 then none else some (rd_T32 lk ((i : Int) - 1)).f4) names x = true then lvlS k (some x.f4) (x.f0 :: names) (lk.drop (i + 1)) else none) with | none => false | some n => lvlsS (k + 1) n (l0_0.drop (k + 1))) = r) := ⟨by
    have := HV.out
    rw [List.drop_eq_getElem_cons hi, lvlS, hx2] at this
    exact this⟩
   have HX := Aside0.mk hx
   have HN2 : Aside0 ((x.f0 :: names).length + (lk.drop (i + 1)).length + (l0_0.drop (k + 1)).flatten.length ≤ 1 + l0_0.flatten.length) := ⟨by
    have := HNL.out
    rw [List.drop_eq_getElem_cons hi, List.length_cons] at this
    rw [List.length_cons]
    omega⟩
   have hnn : names.length ≤ 1000000 := by have := HNL.out; omega
   clear HV hx hx2 HNL
   go_upto_region 10 with (first | ((with_reducible refine gate_dst (N := 7) rfl ?_); refine box_event ?hg (N := 7) ?hd (cs := #[.string (⟨#[]⟩ : ByteArray), .int .i64 0, .int .i64 0, .string (⟨#[]⟩ : ByteArray), .string (⟨#[]⟩ : ByteArray)]) (t := 32) ?hr ?_; (case hd => rfl); (case hg => rfl); (case hr => first | (go_simp; done) | (go_simp; rfl)); intro gm hg_ wm hbox_ hb_; have M0 := Aside0.mk (HS.out.new hb_ hg_ hbox_); clear HS hbox_ hg_; replace hy0 := cl_ hb_ hy0; replace hy1 := cl_ hb_ hy1; replace hy2 := cl_ hb_ hy2; replace hy3 := cl_ hb_ hy3; replace hy4 := cl_ hb_ hy4; clear hb_; have hm0 := (M0.out.cell 0).trans rfl; have hm1 := (M0.out.cell 1).trans rfl; have hm2 := (M0.out.cell 2).trans rfl; have hm3 := (M0.out.cell 3).trans rfl; have hm4 := (M0.out.cell 4).trans rfl; have hmf0 := M0.out.fr 0; have hmf1 := M0.out.fr 1; have hmf2 := M0.out.fr 2; have hmf3 := M0.out.fr 3; have hmf4 := M0.out.fr 4))
   have hq : True := trivial
   obtain ⟨W, hW⟩ : ∃ W, W = ((((wm.setCell ⟨gm, 0, none⟩ (.string x.f0)).setCell ⟨gm, 1, none⟩ (.int .i64 x.f1)).setCell ⟨gm, 2, none⟩ (.int .i64 x.f2)).setCell ⟨gm, 3, none⟩ (.string x.f3)).setCell ⟨gm, 4, none⟩ (.string x.f4) := ⟨_, rfl⟩
   have MM : Aside0 (MSt w gb B gm csv #[.string x.f0, .int .i64 x.f1, .int .i64 x.f2, .string x.f3, .string x.f4] names W) := ⟨by rw [hW]; exact ((((M0.out.set 0 _ rfl).set 1 _ rfl).set 2 _ rfl).set 3 _ rfl).set 4 _ rfl⟩
   rw [← hW]
   clear hW hq M0 hy0 hy1 hy2 hy3 hy4 hm0 hm1 hm2 hm3 hm4 hmf0 hmf1 hmf2 hmf3 hmf4
   have HTF := Aside0.mk (table_f x)
   cases htb : tableS x with
   | false =>
    rw [htb] at HTF
    obtain rfl : false = r := by
     have := HV2.out
     rw [if_neg (by simp [okS, htb])] at this
     exact this
    clear HV2 HN2 hnn
    refine start_ (n := 28) (S := fun w' => w'.cell? ⟨gm, 0, none⟩ = some (.string x.f0) ∧ w'.cell? ⟨gm, 1, none⟩ = some (.int .i64 x.f1) ∧ w'.cell? ⟨gm, 2, none⟩ = some (.int .i64 x.f2) ∧ w'.cell? ⟨gm, 3, none⟩ = some (.string x.f3) ∧ w'.cell? ⟨gm, 4, none⟩ = some (.string x.f4)) (ds := []) (b_ 28 0) (by kernel_rfl) rfl rfl ⟨(MM.out.cell 0).trans rfl, (MM.out.cell 1).trans rfl, (MM.out.cell 2).trans rfl, (MM.out.cell 3).trans rfl, (MM.out.cell 4).trans rfl⟩ (fun hHeld => ?_)
    have n_ := Aside0.mk (MSt.drew MM.out)
    clear MM
    have MM := n_
    clear n_
    generalize W.drew = ws at MM hHeld ⊢
    refine take_ (i := 0) (N := some 57) (v := ?_) (a' := ?_) (b_ 28 1) rfl rfl (by kernel_rfl) (fun _ _ _ h => h) (Or.inl ⟨by rfl, ?_⟩) hHeld ?_ ?_
    rotate_left
    ·
     rintro w' ⟨s0, s1, s2, s3, s4⟩
     go_simp
     with_reducible rfl
    rotate_left
    ·
     simp only [Act.put, sa_, s0_, s1_, i64_w, i32_w]
     rfl
    refine one_ (i := 1) (N := some 58) (b_ 28 3) rfl rfl (by kernel_rfl) (by decide) (fun K hK => ?_)
    refine goes_ Try.func57 (by kernel_rfl) rfl #[.agg #[.string x.f0, .int .i64 x.f1, .int .i64 x.f2, .string x.f3, .string x.f4]] (by rfl) rfl rfl (by simp only [List.map_toArray, List.map_cons, List.map_nil]; rfl) ?_
    with_reducible refine (version_table.calls x.f0 x.f1 x.f2 x.f3 x.f4 false _ HTF.out).mono ?_
    rintro e w7 ⟨rfl, hb_⟩
    refine ⟨_, rfl, ?_⟩
    have M2 := Aside0.mk (MM.out.below hb_)
    clear hb_
    refine hK.out _ _ ⟨(M2.out.cell 0).trans rfl, (M2.out.cell 1).trans rfl, (M2.out.cell 2).trans rfl, (M2.out.cell 3).trans rfl, (M2.out.cell 4).trans rfl⟩ (fun hHeld => ?_)
    clear hK K
    refine norm_ (a' := ?_) ?_ ?_
    rotate_left
    ·
     show Act.put _ (some 58) _ = _
     simp only [Act.put, sa_, s0_, s1_, i64_w, i32_w]
     rfl
    refine pure_ (i := 2) (N := some 59) (v := ?_) (a' := ?_) (b_ 28 7) rfl rfl (by kernel_rfl) (fun _ _ _ h => h) (Or.inl ⟨by rfl, ?_⟩) ?_ ?_
    rotate_left
    ·
     intro w'
     go_simp
     with_reducible rfl
    rotate_left
    ·
     simp only [Act.put, sa_, s0_, s1_, i64_w, i32_w]
     rfl
    refine pure_ (i := 3) (N := some 60) (v := ?_) (a' := ?_) (b_ 28 15) rfl rfl (by kernel_rfl) (fun _ _ _ h => h) (Or.inl ⟨by rfl, ?_⟩) ?_ ?_
    rotate_left
    ·
     intro w'
     go_simp
     with_reducible rfl
    rotate_left
    ·
     simp only [Act.put, sa_, s0_, s1_, i64_w, i32_w]
     rfl
    refine pure_ (i := 4) (N := some 61) (v := undef) (a' := ?_) (b_ 28 31) rfl rfl (by kernel_rfl) (fun _ _ _ h => h) (Or.inr ⟨by rfl, rfl⟩) ?_ ?_
    rotate_left
    ·
     simp only [Act.put, sa_, s0_, s1_, i64_w, i32_w]
     rfl
    refine pure_ (i := 5) (N := some 62) (v := undef) (a' := ?_) (b_ 28 63) rfl rfl (by kernel_rfl) (fun _ _ _ h => h) (Or.inr ⟨by rfl, rfl⟩) ?_ ?_
    rotate_left
    ·
     simp only [Act.put, sa_, s0_, s1_, i64_w, i32_w]
     rfl
    refine pure_ (i := 6) (N := some 63) (v := undef) (a' := ?_) (b_ 28 127) rfl rfl (by kernel_rfl) (fun _ _ _ h => h) (Or.inr ⟨by rfl, rfl⟩) ?_ ?_
    rotate_left
    ·
     simp only [Act.put, sa_, s0_, s1_, i64_w, i32_w]
     rfl
    refine pure_ (i := 7) (N := some 64) (v := undef) (a' := ?_) (b_ 28 255) rfl rfl (by kernel_rfl) (fun _ _ _ h => h) (Or.inr ⟨by rfl, rfl⟩) ?_ ?_
    rotate_left
    ·
     simp only [Act.put, sa_, s0_, s1_, i64_w, i32_w]
     rfl
    refine pure_ (i := 8) (N := some 65) (v := ?_) (a' := ?_) (b_ 28 511) rfl rfl (by kernel_rfl) (fun _ _ _ h => h) (Or.inl ⟨by rfl, ?_⟩) ?_ ?_
    rotate_left
    ·
     intro w'
     go_simp
     with_reducible rfl
    rotate_left
    ·
     simp only [Act.put, sa_, s0_, s1_, i64_w, i32_w]
     rfl
    refine pure_ (i := 9) (N := some 66) (v := ?_) (a' := ?_) (b_ 28 1023) rfl rfl (by kernel_rfl) (fun _ _ _ h => h) (Or.inl ⟨by rfl, ?_⟩) ?_ ?_
    rotate_left
    ·
     intro w'
     go_simp
     with_reducible rfl
    rotate_left
    ·
     simp only [Act.put, sa_, s0_, s1_, i64_w, i32_w]
     rfl
    refine pure_ (i := 10) (N := some 67) (v := undef) (a' := ?_) (b_ 28 2047) rfl rfl (by kernel_rfl) (fun _ _ _ h => h) (Or.inr ⟨by rfl, rfl⟩) ?_ ?_
    rotate_left
    ·
     simp only [Act.put, sa_, s0_, s1_, i64_w, i32_w]
     rfl
    refine pure_ (i := 11) (N := some 68) (v := undef) (a' := ?_) (b_ 28 4095) rfl rfl (by kernel_rfl) (fun _ _ _ h => h) (Or.inr ⟨by rfl, rfl⟩) ?_ ?_
    rotate_left
    ·
     simp only [Act.put, sa_, s0_, s1_, i64_w, i32_w]
     rfl
    refine pure_ (i := 12) (N := some 69) (v := undef) (a' := ?_) (b_ 28 8191) rfl rfl (by kernel_rfl) (fun _ _ _ h => h) (Or.inr ⟨by rfl, rfl⟩) ?_ ?_
    rotate_left
    ·
     simp only [Act.put, sa_, s0_, s1_, i64_w, i32_w]
     rfl
    refine pure_ (i := 13) (N := some 70) (v := undef) (a' := ?_) (b_ 28 16383) rfl rfl (by kernel_rfl) (fun _ _ _ h => h) (Or.inr ⟨by rfl, rfl⟩) ?_ ?_
    rotate_left
    ·
     simp only [Act.put, sa_, s0_, s1_, i64_w, i32_w]
     rfl
    refine pure_ (i := 14) (N := some 71) (v := undef) (a' := ?_) (b_ 28 32767) rfl rfl (by kernel_rfl) (fun _ _ _ h => h) (Or.inr ⟨by rfl, rfl⟩) ?_ ?_
    rotate_left
    ·
     simp only [Act.put, sa_, s0_, s1_, i64_w, i32_w]
     rfl
    refine pure_ (i := 15) (N := some 72) (v := undef) (a' := ?_) (b_ 28 65535) rfl rfl (by kernel_rfl) (fun _ _ _ h => h) (Or.inr ⟨by rfl, rfl⟩) ?_ ?_
    rotate_left
    ·
     simp only [Act.put, sa_, s0_, s1_, i64_w, i32_w]
     rfl
    refine pure_ (i := 16) (N := some 73) (v := undef) (a' := ?_) (b_ 28 131071) rfl rfl (by kernel_rfl) (fun _ _ _ h => h) (Or.inr ⟨by rfl, rfl⟩) ?_ ?_
    rotate_left
    ·
     simp only [Act.put, sa_, s0_, s1_, i64_w, i32_w]
     rfl
    refine pure_ (i := 17) (N := some 74) (v := undef) (a' := ?_) (b_ 28 262143) rfl rfl (by kernel_rfl) (fun _ _ _ h => h) (Or.inr ⟨by rfl, rfl⟩) ?_ ?_
    rotate_left
    ·
     simp only [Act.put, sa_, s0_, s1_, i64_w, i32_w]
     rfl
    refine pure_ (i := 18) (N := some 75) (v := undef) (a' := ?_) (b_ 28 524287) rfl rfl (by kernel_rfl) (fun _ _ _ h => h) (Or.inr ⟨by rfl, rfl⟩) ?_ ?_
    rotate_left
    ·
     simp only [Act.put, sa_, s0_, s1_, i64_w, i32_w]
     rfl
    refine pure_ (i := 19) (N := some 76) (v := undef) (a' := ?_) (b_ 28 1048575) rfl rfl (by kernel_rfl) (fun _ _ _ h => h) (Or.inr ⟨by rfl, rfl⟩) ?_ ?_
    rotate_left
    ·
     simp only [Act.put, sa_, s0_, s1_, i64_w, i32_w]
     rfl
    refine pure_ (i := 20) (N := some 77) (v := undef) (a' := ?_) (b_ 28 2097151) rfl rfl (by kernel_rfl) (fun _ _ _ h => h) (Or.inr ⟨by rfl, rfl⟩) ?_ ?_
    rotate_left
    ·
     simp only [Act.put, sa_, s0_, s1_, i64_w, i32_w]
     rfl
    refine pure_ (i := 21) (N := some 78) (v := undef) (a' := ?_) (b_ 28 4194303) rfl rfl (by kernel_rfl) (fun _ _ _ h => h) (Or.inr ⟨by rfl, rfl⟩) ?_ ?_
    rotate_left
    ·
     simp only [Act.put, sa_, s0_, s1_, i64_w, i32_w]
     rfl
    refine pure_ (i := 22) (N := some 79) (v := undef) (a' := ?_) (b_ 28 8388607) rfl rfl (by kernel_rfl) (fun _ _ _ h => h) (Or.inr ⟨by rfl, rfl⟩) ?_ ?_
    rotate_left
    ·
     simp only [Act.put, sa_, s0_, s1_, i64_w, i32_w]
     rfl
    refine pure_ (i := 23) (N := some 80) (v := undef) (a' := ?_) (b_ 28 16777215) rfl rfl (by kernel_rfl) (fun _ _ _ h => h) (Or.inr ⟨by rfl, rfl⟩) ?_ ?_
    rotate_left
    ·
     simp only [Act.put, sa_, s0_, s1_, i64_w, i32_w]
     rfl
    refine pure_ (i := 24) (N := some 81) (v := undef) (a' := ?_) (b_ 28 33554431) rfl rfl (by kernel_rfl) (fun _ _ _ h => h) (Or.inr ⟨by rfl, rfl⟩) ?_ ?_
    rotate_left
    ·
     simp only [Act.put, sa_, s0_, s1_, i64_w, i32_w]
     rfl
    refine pure_ (i := 25) (N := some 82) (v := undef) (a' := ?_) (b_ 28 67108863) rfl rfl (by kernel_rfl) (fun _ _ _ h => h) (Or.inr ⟨by rfl, rfl⟩) ?_ ?_
    rotate_left
    ·
     simp only [Act.put, sa_, s0_, s1_, i64_w, i32_w]
     rfl
    refine pure_ (i := 26) (N := some 83) (v := undef) (a' := ?_) (b_ 28 134217727) rfl rfl (by kernel_rfl) (fun _ _ _ h => h) (Or.inr ⟨by rfl, rfl⟩) ?_ ?_
    rotate_left
    ·
     simp only [Act.put, sa_, s0_, s1_, i64_w, i32_w]
     rfl
    refine pure_ (i := 27) (N := some 84) (v := ?_) (a' := ?_) (b_ 28 268435455) rfl rfl (by kernel_rfl) (fun _ _ _ h => h) (Or.inl ⟨by rfl, ?_⟩) ?_ ?_
    rotate_left
    ·
     intro w'
     go_simp
     with_reducible rfl
    rotate_left
    ·
     simp only [Act.put, sa_, s0_, s1_, i64_w, i32_w]
     rfl
    refine done_ (by kernel_rfl) ?_
    go_wp2
    go_ret
    exact ⟨rfl, M2.out.bel⟩
   | true =>
    rw [htb] at HTF
    have hnm := tableS_name htb
    cases hsn : inS names x.f0 with
    | true =>
     obtain rfl : false = r := by
      have := HV2.out
      rw [if_neg (by simp [okS, htb, hsn])] at this
      exact this
     have HLK : Aside0 (∀ W, SetM W B names → (Instr.lookup 85 (.map (some B)) (.string x.f0) false).run Try.prog W = .ok (.bool true) W) := ⟨fun W h => by have := h.look x.f0 (by omega); rw [hsn] at this; exact this⟩
     clear HV2 HN2 hnn hsn htb
     refine start_ (n := 28) (S := fun w' => w'.cell? ⟨gm, 0, none⟩ = some (.string x.f0) ∧ w'.cell? ⟨gm, 1, none⟩ = some (.int .i64 x.f1) ∧ w'.cell? ⟨gm, 2, none⟩ = some (.int .i64 x.f2) ∧ w'.cell? ⟨gm, 3, none⟩ = some (.string x.f3) ∧ w'.cell? ⟨gm, 4, none⟩ = some (.string x.f4) ∧ (Instr.lookup 85 (.map (some B)) (.string x.f0) false).run Try.prog w' = .ok (.bool true) w') (ds := []) (b_ 28 0) (by kernel_rfl) rfl rfl ⟨(MM.out.cell 0).trans rfl, (MM.out.cell 1).trans rfl, (MM.out.cell 2).trans rfl, (MM.out.cell 3).trans rfl, (MM.out.cell 4).trans rfl, HLK.out _ MM.out.map⟩ (fun hHeld => ?_)
     have n_ := Aside0.mk (MSt.drew MM.out)
     clear MM
     have MM := n_
     clear n_
     generalize W.drew = ws at MM hHeld ⊢
     refine take_ (i := 0) (N := some 57) (v := ?_) (a' := ?_) (b_ 28 1) rfl rfl (by kernel_rfl) (fun _ _ _ h => h) (Or.inl ⟨by rfl, ?_⟩) hHeld ?_ ?_
     rotate_left
     ·
      rintro w' ⟨s0, s1, s2, s3, s4, s5⟩
      go_simp
      with_reducible rfl
     rotate_left
     ·
      simp only [Act.put, sa_, s0_, s1_, i64_w, i32_w]
      rfl
     refine one_ (i := 1) (N := some 58) (b_ 28 3) rfl rfl (by kernel_rfl) (by decide) (fun K hK => ?_)
     refine goes_ Try.func57 (by kernel_rfl) rfl #[.agg #[.string x.f0, .int .i64 x.f1, .int .i64 x.f2, .string x.f3, .string x.f4]] (by rfl) rfl rfl (by simp only [List.map_toArray, List.map_cons, List.map_nil]; rfl) ?_
     with_reducible refine (version_table.calls x.f0 x.f1 x.f2 x.f3 x.f4 true _ HTF.out).mono ?_
     rintro e w7 ⟨rfl, hb_⟩
     refine ⟨_, rfl, ?_⟩
     have M2 := Aside0.mk (MM.out.below hb_)
     clear hb_
     refine hK.out _ _ ⟨(M2.out.cell 0).trans rfl, (M2.out.cell 1).trans rfl, (M2.out.cell 2).trans rfl, (M2.out.cell 3).trans rfl, (M2.out.cell 4).trans rfl, HLK.out _ M2.out.map⟩ (fun hHeld => ?_)
     clear hK K
     refine norm_ (a' := ?_) ?_ ?_
     rotate_left
     ·
      show Act.put _ (some 58) _ = _
      simp only [Act.put, sa_, s0_, s1_, i64_w, i32_w]
      rfl
     refine pure_ (i := 2) (N := some 59) (v := ?_) (a' := ?_) (b_ 28 7) rfl rfl (by kernel_rfl) (fun _ _ _ h => h) (Or.inl ⟨by rfl, ?_⟩) ?_ ?_
     rotate_left
     ·
      intro w'
      go_simp
      with_reducible rfl
     rotate_left
     ·
      simp only [Act.put, sa_, s0_, s1_, i64_w, i32_w]
      rfl
     refine pure_ (i := 3) (N := some 60) (v := ?_) (a' := ?_) (b_ 28 15) rfl rfl (by kernel_rfl) (fun _ _ _ h => h) (Or.inl ⟨by rfl, ?_⟩) ?_ ?_
     rotate_left
     ·
      intro w'
      go_simp
      with_reducible rfl
     rotate_left
     ·
      simp only [Act.put, sa_, s0_, s1_, i64_w, i32_w]
      rfl
     refine pure_ (i := 4) (N := some 61) (v := ?_) (a' := ?_) (b_ 28 31) rfl rfl (by kernel_rfl) (fun _ _ _ h => h) (Or.inl ⟨by rfl, ?_⟩) ?_ ?_
     rotate_left
     ·
      intro w'
      go_simp
      with_reducible rfl
     rotate_left
     ·
      simp only [Act.put, sa_, s0_, s1_, i64_w, i32_w]
      rfl
     refine pure_ (i := 5) (N := some 62) (v := ?_) (a' := ?_) (b_ 28 63) rfl rfl (by kernel_rfl) (fun _ _ _ h => h) (Or.inl ⟨by rfl, ?_⟩) ?_ ?_
     rotate_left
     ·
      intro w'
      go_simp
      with_reducible rfl
     rotate_left
     ·
      simp only [Act.put, sa_, s0_, s1_, i64_w, i32_w]
      rfl
     refine take_ (i := 6) (N := some 63) (v := ?_) (a' := ?_) (b_ 28 127) rfl rfl (by kernel_rfl) (fun _ _ _ h => h) (Or.inl ⟨by rfl, ?_⟩) hHeld ?_ ?_
     rotate_left
     ·
      rintro w' ⟨s0, s1, s2, s3, s4, s5⟩
      go_simp
      with_reducible rfl
     rotate_left
     ·
      simp only [Act.put, sa_, s0_, s1_, i64_w, i32_w]
      rfl
     refine take_ (i := 7) (N := some 64) (v := ?_) (a' := ?_) (b_ 28 255) rfl rfl (by kernel_rfl) (fun _ _ _ h => h) (Or.inl ⟨by rfl, ?_⟩) hHeld ?_ ?_
     rotate_left
     ·
      rintro w' ⟨s0, s1, s2, s3, s4, s5⟩
      go_simp
      with_reducible rfl
     rotate_left
     ·
      simp only [Act.put, sa_, s0_, s1_, i64_w, i32_w]
      rfl
     refine pure_ (i := 8) (N := some 65) (v := ?_) (a' := ?_) (b_ 28 511) rfl rfl (by kernel_rfl) (fun _ _ _ h => h) (Or.inl ⟨by rfl, ?_⟩) ?_ ?_
     rotate_left
     ·
      intro w'
      go_simp
      with_reducible rfl
     rotate_left
     ·
      simp only [Act.put, sa_, s0_, s1_, i64_w, i32_w]
      rfl
     refine pure_ (i := 9) (N := some 66) (v := ?_) (a' := ?_) (b_ 28 1023) rfl rfl (by kernel_rfl) (fun _ _ _ h => h) (Or.inl ⟨by rfl, ?_⟩) ?_ ?_
     rotate_left
     ·
      intro w'
      go_simp
      with_reducible rfl
     rotate_left
     ·
      simp only [Act.put, sa_, s0_, s1_, i64_w, i32_w]
      rfl
     refine pure_ (i := 10) (N := some 67) (v := undef) (a' := ?_) (b_ 28 2047) rfl rfl (by kernel_rfl) (fun _ _ _ h => h) (Or.inr ⟨by rfl, rfl⟩) ?_ ?_
     rotate_left
     ·
      simp only [Act.put, sa_, s0_, s1_, i64_w, i32_w]
      rfl
     refine pure_ (i := 11) (N := some 68) (v := undef) (a' := ?_) (b_ 28 4095) rfl rfl (by kernel_rfl) (fun _ _ _ h => h) (Or.inr ⟨by rfl, rfl⟩) ?_ ?_
     rotate_left
     ·
      simp only [Act.put, sa_, s0_, s1_, i64_w, i32_w]
      rfl
     refine pure_ (i := 12) (N := some 69) (v := undef) (a' := ?_) (b_ 28 8191) rfl rfl (by kernel_rfl) (fun _ _ _ h => h) (Or.inr ⟨by rfl, rfl⟩) ?_ ?_
     rotate_left
     ·
      simp only [Act.put, sa_, s0_, s1_, i64_w, i32_w]
      rfl
     refine pure_ (i := 13) (N := some 70) (v := undef) (a' := ?_) (b_ 28 16383) rfl rfl (by kernel_rfl) (fun _ _ _ h => h) (Or.inr ⟨by rfl, rfl⟩) ?_ ?_
     rotate_left
     ·
      simp only [Act.put, sa_, s0_, s1_, i64_w, i32_w]
      rfl
     refine pure_ (i := 14) (N := some 71) (v := undef) (a' := ?_) (b_ 28 32767) rfl rfl (by kernel_rfl) (fun _ _ _ h => h) (Or.inr ⟨by rfl, rfl⟩) ?_ ?_
     rotate_left
     ·
      simp only [Act.put, sa_, s0_, s1_, i64_w, i32_w]
      rfl
     refine pure_ (i := 15) (N := some 72) (v := undef) (a' := ?_) (b_ 28 65535) rfl rfl (by kernel_rfl) (fun _ _ _ h => h) (Or.inr ⟨by rfl, rfl⟩) ?_ ?_
     rotate_left
     ·
      simp only [Act.put, sa_, s0_, s1_, i64_w, i32_w]
      rfl
     refine pure_ (i := 16) (N := some 73) (v := undef) (a' := ?_) (b_ 28 131071) rfl rfl (by kernel_rfl) (fun _ _ _ h => h) (Or.inr ⟨by rfl, rfl⟩) ?_ ?_
     rotate_left
     ·
      simp only [Act.put, sa_, s0_, s1_, i64_w, i32_w]
      rfl
     refine pure_ (i := 17) (N := some 74) (v := undef) (a' := ?_) (b_ 28 262143) rfl rfl (by kernel_rfl) (fun _ _ _ h => h) (Or.inr ⟨by rfl, rfl⟩) ?_ ?_
     rotate_left
     ·
      simp only [Act.put, sa_, s0_, s1_, i64_w, i32_w]
      rfl
     refine pure_ (i := 18) (N := some 75) (v := undef) (a' := ?_) (b_ 28 524287) rfl rfl (by kernel_rfl) (fun _ _ _ h => h) (Or.inr ⟨by rfl, rfl⟩) ?_ ?_
     rotate_left
     ·
      simp only [Act.put, sa_, s0_, s1_, i64_w, i32_w]
      rfl
     refine pure_ (i := 19) (N := some 76) (v := undef) (a' := ?_) (b_ 28 1048575) rfl rfl (by kernel_rfl) (fun _ _ _ h => h) (Or.inr ⟨by rfl, rfl⟩) ?_ ?_
     rotate_left
     ·
      simp only [Act.put, sa_, s0_, s1_, i64_w, i32_w]
      rfl
     refine pure_ (i := 20) (N := some 77) (v := undef) (a' := ?_) (b_ 28 2097151) rfl rfl (by kernel_rfl) (fun _ _ _ h => h) (Or.inr ⟨by rfl, rfl⟩) ?_ ?_
     rotate_left
     ·
      simp only [Act.put, sa_, s0_, s1_, i64_w, i32_w]
      rfl
     refine pure_ (i := 21) (N := some 78) (v := undef) (a' := ?_) (b_ 28 4194303) rfl rfl (by kernel_rfl) (fun _ _ _ h => h) (Or.inr ⟨by rfl, rfl⟩) ?_ ?_
     rotate_left
     ·
      simp only [Act.put, sa_, s0_, s1_, i64_w, i32_w]
      rfl
     refine pure_ (i := 22) (N := some 79) (v := undef) (a' := ?_) (b_ 28 8388607) rfl rfl (by kernel_rfl) (fun _ _ _ h => h) (Or.inr ⟨by rfl, rfl⟩) ?_ ?_
     rotate_left
     ·
      simp only [Act.put, sa_, s0_, s1_, i64_w, i32_w]
      rfl
     refine pure_ (i := 23) (N := some 80) (v := undef) (a' := ?_) (b_ 28 16777215) rfl rfl (by kernel_rfl) (fun _ _ _ h => h) (Or.inr ⟨by rfl, rfl⟩) ?_ ?_
     rotate_left
     ·
      simp only [Act.put, sa_, s0_, s1_, i64_w, i32_w]
      rfl
     refine pure_ (i := 24) (N := some 81) (v := undef) (a' := ?_) (b_ 28 33554431) rfl rfl (by kernel_rfl) (fun _ _ _ h => h) (Or.inr ⟨by rfl, rfl⟩) ?_ ?_
     rotate_left
     ·
      simp only [Act.put, sa_, s0_, s1_, i64_w, i32_w]
      rfl
     refine pure_ (i := 25) (N := some 82) (v := undef) (a' := ?_) (b_ 28 67108863) rfl rfl (by kernel_rfl) (fun _ _ _ h => h) (Or.inr ⟨by rfl, rfl⟩) ?_ ?_
     rotate_left
     ·
      simp only [Act.put, sa_, s0_, s1_, i64_w, i32_w]
      rfl
     refine pure_ (i := 26) (N := some 83) (v := undef) (a' := ?_) (b_ 28 134217727) rfl rfl (by kernel_rfl) (fun _ _ _ h => h) (Or.inr ⟨by rfl, rfl⟩) ?_ ?_
     rotate_left
     ·
      simp only [Act.put, sa_, s0_, s1_, i64_w, i32_w]
      rfl
     refine pure_ (i := 27) (N := some 84) (v := ?_) (a' := ?_) (b_ 28 268435455) rfl rfl (by kernel_rfl) (fun _ _ _ h => h) (Or.inl ⟨by rfl, ?_⟩) ?_ ?_
     rotate_left
     ·
      intro w'
      go_simp
      with_reducible rfl
     rotate_left
     ·
      simp only [Act.put, sa_, s0_, s1_, i64_w, i32_w]
      rfl
     refine done_ (by kernel_rfl) ?_
     go_wp2
     go_ret
     exact ⟨rfl, M2.out.bel⟩
    | false =>
     have HLK : Aside0 (∀ W, SetM W B names → (Instr.lookup 85 (.map (some B)) (.string x.f0) false).run Try.prog W = .ok (.bool false) W) := ⟨fun W h => by have := h.look x.f0 (by omega); rw [hsn] at this; exact this⟩
     by_cases hk0 : 0 < k
     rotate_left
     ·
      have hk3 : decide (0 < (k : Int)) = false := decide_eq_false (by omega)
      have hk4 : decide (0 < k) = false := decide_eq_false hk0
      have HV3 : Aside0 ((match lvlS k (if i + 1 = 0 then none else some (rd_T32 lk (((i + 1 : Nat) : Int) - 1)).f4) (x.f0 :: names) (lk.drop (i + 1)) with | none => false | some n => lvlsS (k + 1) n (l0_0.drop (k + 1))) = r) := ⟨by
       have := HV2.out
       rw [if_pos (by unfold okS; rw [htb, hsn]; rw [decide_eq_false hk0]; rfl)] at this
       rw [if_neg (by omega), show ((i + 1 : Nat) : Int) - 1 = (i : Int) by omega, HX.out]
       exact this⟩
      clear HV2 hsn htb
      refine start_ (n := 28) (S := fun w' => w'.cell? ⟨gm, 0, none⟩ = some (.string x.f0) ∧ w'.cell? ⟨gm, 1, none⟩ = some (.int .i64 x.f1) ∧ w'.cell? ⟨gm, 2, none⟩ = some (.int .i64 x.f2) ∧ w'.cell? ⟨gm, 3, none⟩ = some (.string x.f3) ∧ w'.cell? ⟨gm, 4, none⟩ = some (.string x.f4) ∧ (Instr.lookup 85 (.map (some B)) (.string x.f0) false).run Try.prog w' = .ok (.bool false) w') (ds := []) (b_ 28 0) (by kernel_rfl) rfl rfl ⟨(MM.out.cell 0).trans rfl, (MM.out.cell 1).trans rfl, (MM.out.cell 2).trans rfl, (MM.out.cell 3).trans rfl, (MM.out.cell 4).trans rfl, HLK.out _ MM.out.map⟩ (fun hHeld => ?_)
      have n_ := Aside0.mk (MSt.drew MM.out)
      clear MM
      have MM := n_
      clear n_
      generalize W.drew = ws at MM hHeld ⊢
      refine take_ (i := 0) (N := some 57) (v := ?_) (a' := ?_) (b_ 28 1) rfl rfl (by kernel_rfl) (fun _ _ _ h => h) (Or.inl ⟨by rfl, ?_⟩) hHeld ?_ ?_
      rotate_left
      ·
       rintro w' ⟨s0, s1, s2, s3, s4, s5⟩
       go_simp
       with_reducible rfl
      rotate_left
      ·
       simp only [Act.put, sa_, s0_, s1_, i64_w, i32_w]
       rfl
      refine one_ (i := 1) (N := some 58) (b_ 28 3) rfl rfl (by kernel_rfl) (by decide) (fun K hK => ?_)
      refine goes_ Try.func57 (by kernel_rfl) rfl #[.agg #[.string x.f0, .int .i64 x.f1, .int .i64 x.f2, .string x.f3, .string x.f4]] (by rfl) rfl rfl (by simp only [List.map_toArray, List.map_cons, List.map_nil]; rfl) ?_
      with_reducible refine (version_table.calls x.f0 x.f1 x.f2 x.f3 x.f4 true _ HTF.out).mono ?_
      rintro e w7 ⟨rfl, hb_⟩
      refine ⟨_, rfl, ?_⟩
      have M2 := Aside0.mk (MM.out.below hb_)
      clear hb_
      refine hK.out _ _ ⟨(M2.out.cell 0).trans rfl, (M2.out.cell 1).trans rfl, (M2.out.cell 2).trans rfl, (M2.out.cell 3).trans rfl, (M2.out.cell 4).trans rfl, HLK.out _ M2.out.map⟩ (fun hHeld => ?_)
      clear hK K
      refine norm_ (a' := ?_) ?_ ?_
      rotate_left
      ·
       show Act.put _ (some 58) _ = _
       simp only [Act.put, sa_, s0_, s1_, i64_w, i32_w]
       rfl
      refine pure_ (i := 2) (N := some 59) (v := ?_) (a' := ?_) (b_ 28 7) rfl rfl (by kernel_rfl) (fun _ _ _ h => h) (Or.inl ⟨by rfl, ?_⟩) ?_ ?_
      rotate_left
      ·
       intro w'
       go_simp
       with_reducible rfl
      rotate_left
      ·
       simp only [Act.put, sa_, s0_, s1_, i64_w, i32_w]
       rfl
      refine pure_ (i := 3) (N := some 60) (v := ?_) (a' := ?_) (b_ 28 15) rfl rfl (by kernel_rfl) (fun _ _ _ h => h) (Or.inl ⟨by rfl, ?_⟩) ?_ ?_
      rotate_left
      ·
       intro w'
       go_simp
       with_reducible rfl
      rotate_left
      ·
       simp only [Act.put, sa_, s0_, s1_, i64_w, i32_w]
       rfl
      refine pure_ (i := 4) (N := some 61) (v := ?_) (a' := ?_) (b_ 28 31) rfl rfl (by kernel_rfl) (fun _ _ _ h => h) (Or.inl ⟨by rfl, ?_⟩) ?_ ?_
      rotate_left
      ·
       intro w'
       go_simp
       with_reducible rfl
      rotate_left
      ·
       simp only [Act.put, sa_, s0_, s1_, i64_w, i32_w]
       rfl
      refine pure_ (i := 5) (N := some 62) (v := ?_) (a' := ?_) (b_ 28 63) rfl rfl (by kernel_rfl) (fun _ _ _ h => h) (Or.inl ⟨by rfl, ?_⟩) ?_ ?_
      rotate_left
      ·
       intro w'
       go_simp
       with_reducible rfl
      rotate_left
      ·
       simp only [Act.put, sa_, s0_, s1_, i64_w, i32_w]
       rfl
      refine take_ (i := 6) (N := some 63) (v := ?_) (a' := ?_) (b_ 28 127) rfl rfl (by kernel_rfl) (fun _ _ _ h => h) (Or.inl ⟨by rfl, ?_⟩) hHeld ?_ ?_
      rotate_left
      ·
       rintro w' ⟨s0, s1, s2, s3, s4, s5⟩
       go_simp
       with_reducible rfl
      rotate_left
      ·
       simp only [Act.put, sa_, s0_, s1_, i64_w, i32_w]
       rfl
      refine take_ (i := 7) (N := some 64) (v := ?_) (a' := ?_) (b_ 28 255) rfl rfl (by kernel_rfl) (fun _ _ _ h => h) (Or.inl ⟨by rfl, ?_⟩) hHeld ?_ ?_
      rotate_left
      ·
       rintro w' ⟨s0, s1, s2, s3, s4, s5⟩
       go_simp
       with_reducible rfl
      rotate_left
      ·
       simp only [Act.put, sa_, s0_, s1_, i64_w, i32_w]
       rfl
      refine pure_ (i := 8) (N := some 65) (v := ?_) (a' := ?_) (b_ 28 511) rfl rfl (by kernel_rfl) (fun _ _ _ h => h) (Or.inl ⟨by rfl, ?_⟩) ?_ ?_
      rotate_left
      ·
       intro w'
       go_simp
       with_reducible rfl
      rotate_left
      ·
       simp only [Act.put, sa_, s0_, s1_, i64_w, i32_w]
       rfl
      refine pure_ (i := 9) (N := some 66) (v := ?_) (a' := ?_) (b_ 28 1023) rfl rfl (by kernel_rfl) (fun _ _ _ h => h) (Or.inl ⟨by rfl, ?_⟩) ?_ ?_
      rotate_left
      ·
       intro w'
       go_simp
       with_reducible rfl
      rotate_left
      ·
       simp only [Act.put, sa_, s0_, s1_, i64_w, i32_w]
       rfl
      refine pure_ (i := 10) (N := some 67) (v := ?_) (a' := ?_) (b_ 28 2047) rfl rfl (by kernel_rfl) (fun _ _ _ h => h) (Or.inl ⟨by rfl, ?_⟩) ?_ ?_
      rotate_left
      ·
       intro w'
       go_simp
       with_reducible rfl
      rotate_left
      ·
       simp only [Act.put, sa_, s0_, s1_, i64_w, i32_w]
       rfl
      refine pure_ (i := 11) (N := some 68) (v := ?_) (a' := ?_) (b_ 28 4095) rfl rfl (by kernel_rfl) (fun _ _ _ h => h) (Or.inl ⟨by rfl, ?_⟩) ?_ ?_
      rotate_left
      ·
       intro w'
       go_simp
       with_reducible rfl
      rotate_left
      ·
       simp only [Act.put, sa_, s0_, s1_, i64_w, i32_w]
       rfl
      refine pure_ (i := 12) (N := some 69) (v := ?_) (a' := ?_) (b_ 28 8191) rfl rfl (by kernel_rfl) (fun _ _ _ h => h) (Or.inl ⟨by rfl, ?_⟩) ?_ ?_
      rotate_left
      ·
       intro w'
       go_simp
       with_reducible rfl
      rotate_left
      ·
       simp only [Act.put, sa_, s0_, s1_, i64_w, i32_w]
       rfl
      refine pure_ (i := 13) (N := some 70) (v := undef) (a' := ?_) (b_ 28 16383) rfl rfl (by kernel_rfl) (fun _ _ _ h => h) (Or.inr ⟨by rfl, rfl⟩) ?_ ?_
      rotate_left
      ·
       simp only [Act.put, sa_, s0_, s1_, i64_w, i32_w]
       rfl
      refine pure_ (i := 14) (N := some 71) (v := undef) (a' := ?_) (b_ 28 32767) rfl rfl (by kernel_rfl) (fun _ _ _ h => h) (Or.inr ⟨by rfl, rfl⟩) ?_ ?_
      rotate_left
      ·
       simp only [Act.put, sa_, s0_, s1_, i64_w, i32_w]
       rfl
      refine pure_ (i := 15) (N := some 72) (v := ?_) (a' := ?_) (b_ 28 65535) rfl rfl (by kernel_rfl) (fun _ _ _ h => h) (Or.inl ⟨by rfl, ?_⟩) ?_ ?_
      rotate_left
      ·
       intro w'
       go_simp
       with_reducible rfl
      rotate_left
      ·
       simp only [Act.put, sa_, s0_, s1_, i64_w, i32_w]
       rfl
      refine pure_ (i := 16) (N := some 73) (v := ?_) (a' := ?_) (b_ 28 131071) rfl rfl (by kernel_rfl) (fun _ _ _ h => h) (Or.inl ⟨by rfl, ?_⟩) ?_ ?_
      rotate_left
      ·
       intro w'
       go_simp
       with_reducible rfl
      rotate_left
      ·
       simp only [Act.put, sa_, s0_, s1_, i64_w, i32_w]
       rfl
      refine pure_ (i := 17) (N := some 74) (v := undef) (a' := ?_) (b_ 28 262143) rfl rfl (by kernel_rfl) (fun _ _ _ h => h) (Or.inr ⟨by rfl, rfl⟩) ?_ ?_
      rotate_left
      ·
       simp only [Act.put, sa_, s0_, s1_, i64_w, i32_w]
       rfl
      refine pure_ (i := 18) (N := some 75) (v := undef) (a' := ?_) (b_ 28 524287) rfl rfl (by kernel_rfl) (fun _ _ _ h => h) (Or.inr ⟨by rfl, rfl⟩) ?_ ?_
      rotate_left
      ·
       simp only [Act.put, sa_, s0_, s1_, i64_w, i32_w]
       rfl
      refine pure_ (i := 19) (N := some 76) (v := undef) (a' := ?_) (b_ 28 1048575) rfl rfl (by kernel_rfl) (fun _ _ _ h => h) (Or.inr ⟨by rfl, rfl⟩) ?_ ?_
      rotate_left
      ·
       simp only [Act.put, sa_, s0_, s1_, i64_w, i32_w]
       rfl
      refine pure_ (i := 20) (N := some 77) (v := undef) (a' := ?_) (b_ 28 2097151) rfl rfl (by kernel_rfl) (fun _ _ _ h => h) (Or.inr ⟨by rfl, rfl⟩) ?_ ?_
      rotate_left
      ·
       simp only [Act.put, sa_, s0_, s1_, i64_w, i32_w]
       rfl
      refine pure_ (i := 21) (N := some 78) (v := undef) (a' := ?_) (b_ 28 4194303) rfl rfl (by kernel_rfl) (fun _ _ _ h => h) (Or.inr ⟨by rfl, rfl⟩) ?_ ?_
      rotate_left
      ·
       simp only [Act.put, sa_, s0_, s1_, i64_w, i32_w]
       rfl
      refine pure_ (i := 22) (N := some 79) (v := undef) (a' := ?_) (b_ 28 8388607) rfl rfl (by kernel_rfl) (fun _ _ _ h => h) (Or.inr ⟨by rfl, rfl⟩) ?_ ?_
      rotate_left
      ·
       simp only [Act.put, sa_, s0_, s1_, i64_w, i32_w]
       rfl
      refine pure_ (i := 23) (N := some 80) (v := undef) (a' := ?_) (b_ 28 16777215) rfl rfl (by kernel_rfl) (fun _ _ _ h => h) (Or.inr ⟨by rfl, rfl⟩) ?_ ?_
      rotate_left
      ·
       simp only [Act.put, sa_, s0_, s1_, i64_w, i32_w]
       rfl
      refine pure_ (i := 24) (N := some 81) (v := undef) (a' := ?_) (b_ 28 33554431) rfl rfl (by kernel_rfl) (fun _ _ _ h => h) (Or.inr ⟨by rfl, rfl⟩) ?_ ?_
      rotate_left
      ·
       simp only [Act.put, sa_, s0_, s1_, i64_w, i32_w]
       rfl
      refine pure_ (i := 25) (N := some 82) (v := undef) (a' := ?_) (b_ 28 67108863) rfl rfl (by kernel_rfl) (fun _ _ _ h => h) (Or.inr ⟨by rfl, rfl⟩) ?_ ?_
      rotate_left
      ·
       simp only [Act.put, sa_, s0_, s1_, i64_w, i32_w]
       rfl
      refine pure_ (i := 26) (N := some 83) (v := ?_) (a' := ?_) (b_ 28 134217727) rfl rfl (by kernel_rfl) (fun _ _ _ h => h) (Or.inl ⟨by rfl, ?_⟩) ?_ ?_
      rotate_left
      ·
       intro w'
       go_simp
       with_reducible rfl
      rotate_left
      ·
       simp only [Act.put, sa_, s0_, s1_, i64_w, i32_w]
       rfl
      refine pure_ (i := 27) (N := some 84) (v := ?_) (a' := ?_) (b_ 28 268435455) rfl rfl (by kernel_rfl) (fun _ _ _ h => h) (Or.inl ⟨by rfl, ?_⟩) ?_ ?_
      rotate_left
      ·
       intro w'
       go_simp
       with_reducible rfl
      rotate_left
      ·
       simp only [Act.put, sa_, s0_, s1_, i64_w, i32_w]
       rfl
      refine done_ (by kernel_rfl) ?_
      have hq0 := (M2.out.cell 0).trans rfl
      go_wp2_with (at_mapUpdate; refine wpList_update_set rfl (.tmp 85) (.tmp 87) (.const (.bool true)) rfl B names x.f0 rfl rfl rfl M2.out.map (by omega) hnn ?_; intro w9 hs_ hg_; have S9 := Aside0.mk (M2.out.forget.put hs_ hg_); clear hs_ hg_)
      refine ⟨⟨i + 1, x.f0 :: names, by simp, hi, HN2, HV3, S9⟩, ?_⟩
      show lk.length - ((i : Int) + 1).toNat < lk.length - ((i : Int)).toNat
      omega
     have hk3 : decide (0 < (k : Int)) = true := decide_eq_true (by omega)
     have hk4 : decide (0 < k) = true := decide_eq_true hk0
     by_cases hi0 : 0 < i
     rotate_left
     ·
      have hi3 : decide (0 < (i : Int)) = false := decide_eq_false (by omega)
      have hi4 : decide (0 < i) = false := decide_eq_false hi0
      have HV3 : Aside0 ((match lvlS k (if i + 1 = 0 then none else some (rd_T32 lk (((i + 1 : Nat) : Int) - 1)).f4) (x.f0 :: names) (lk.drop (i + 1)) with | none => false | some n => lvlsS (k + 1) n (l0_0.drop (k + 1))) = r) := ⟨by
       have := HV2.out
       rw [if_pos (by unfold okS; rw [htb, hsn]; rw [if_pos (show i = 0 by omega)]; simp [overS])] at this
       rw [if_neg (by omega), show ((i + 1 : Nat) : Int) - 1 = (i : Int) by omega, HX.out]
       exact this⟩
      clear HV2 hsn htb
      refine start_ (n := 28) (S := fun w' => w'.cell? ⟨gm, 0, none⟩ = some (.string x.f0) ∧ w'.cell? ⟨gm, 1, none⟩ = some (.int .i64 x.f1) ∧ w'.cell? ⟨gm, 2, none⟩ = some (.int .i64 x.f2) ∧ w'.cell? ⟨gm, 3, none⟩ = some (.string x.f3) ∧ w'.cell? ⟨gm, 4, none⟩ = some (.string x.f4) ∧ (Instr.lookup 85 (.map (some B)) (.string x.f0) false).run Try.prog w' = .ok (.bool false) w') (ds := []) (b_ 28 0) (by kernel_rfl) rfl rfl ⟨(MM.out.cell 0).trans rfl, (MM.out.cell 1).trans rfl, (MM.out.cell 2).trans rfl, (MM.out.cell 3).trans rfl, (MM.out.cell 4).trans rfl, HLK.out _ MM.out.map⟩ (fun hHeld => ?_)
      have n_ := Aside0.mk (MSt.drew MM.out)
      clear MM
      have MM := n_
      clear n_
      generalize W.drew = ws at MM hHeld ⊢
      refine take_ (i := 0) (N := some 57) (v := ?_) (a' := ?_) (b_ 28 1) rfl rfl (by kernel_rfl) (fun _ _ _ h => h) (Or.inl ⟨by rfl, ?_⟩) hHeld ?_ ?_
      rotate_left
      ·
       rintro w' ⟨s0, s1, s2, s3, s4, s5⟩
       go_simp
       with_reducible rfl
      rotate_left
      ·
       simp only [Act.put, sa_, s0_, s1_, i64_w, i32_w]
       rfl
      refine one_ (i := 1) (N := some 58) (b_ 28 3) rfl rfl (by kernel_rfl) (by decide) (fun K hK => ?_)
      refine goes_ Try.func57 (by kernel_rfl) rfl #[.agg #[.string x.f0, .int .i64 x.f1, .int .i64 x.f2, .string x.f3, .string x.f4]] (by rfl) rfl rfl (by simp only [List.map_toArray, List.map_cons, List.map_nil]; rfl) ?_
      with_reducible refine (version_table.calls x.f0 x.f1 x.f2 x.f3 x.f4 true _ HTF.out).mono ?_
      rintro e w7 ⟨rfl, hb_⟩
      refine ⟨_, rfl, ?_⟩
      have M2 := Aside0.mk (MM.out.below hb_)
      clear hb_
      refine hK.out _ _ ⟨(M2.out.cell 0).trans rfl, (M2.out.cell 1).trans rfl, (M2.out.cell 2).trans rfl, (M2.out.cell 3).trans rfl, (M2.out.cell 4).trans rfl, HLK.out _ M2.out.map⟩ (fun hHeld => ?_)
      clear hK K
      refine norm_ (a' := ?_) ?_ ?_
      rotate_left
      ·
       show Act.put _ (some 58) _ = _
       simp only [Act.put, sa_, s0_, s1_, i64_w, i32_w]
       rfl
      refine pure_ (i := 2) (N := some 59) (v := ?_) (a' := ?_) (b_ 28 7) rfl rfl (by kernel_rfl) (fun _ _ _ h => h) (Or.inl ⟨by rfl, ?_⟩) ?_ ?_
      rotate_left
      ·
       intro w'
       go_simp
       with_reducible rfl
      rotate_left
      ·
       simp only [Act.put, sa_, s0_, s1_, i64_w, i32_w]
       rfl
      refine pure_ (i := 3) (N := some 60) (v := ?_) (a' := ?_) (b_ 28 15) rfl rfl (by kernel_rfl) (fun _ _ _ h => h) (Or.inl ⟨by rfl, ?_⟩) ?_ ?_
      rotate_left
      ·
       intro w'
       go_simp
       with_reducible rfl
      rotate_left
      ·
       simp only [Act.put, sa_, s0_, s1_, i64_w, i32_w]
       rfl
      refine pure_ (i := 4) (N := some 61) (v := ?_) (a' := ?_) (b_ 28 31) rfl rfl (by kernel_rfl) (fun _ _ _ h => h) (Or.inl ⟨by rfl, ?_⟩) ?_ ?_
      rotate_left
      ·
       intro w'
       go_simp
       with_reducible rfl
      rotate_left
      ·
       simp only [Act.put, sa_, s0_, s1_, i64_w, i32_w]
       rfl
      refine pure_ (i := 5) (N := some 62) (v := ?_) (a' := ?_) (b_ 28 63) rfl rfl (by kernel_rfl) (fun _ _ _ h => h) (Or.inl ⟨by rfl, ?_⟩) ?_ ?_
      rotate_left
      ·
       intro w'
       go_simp
       with_reducible rfl
      rotate_left
      ·
       simp only [Act.put, sa_, s0_, s1_, i64_w, i32_w]
       rfl
      refine take_ (i := 6) (N := some 63) (v := ?_) (a' := ?_) (b_ 28 127) rfl rfl (by kernel_rfl) (fun _ _ _ h => h) (Or.inl ⟨by rfl, ?_⟩) hHeld ?_ ?_
      rotate_left
      ·
       rintro w' ⟨s0, s1, s2, s3, s4, s5⟩
       go_simp
       with_reducible rfl
      rotate_left
      ·
       simp only [Act.put, sa_, s0_, s1_, i64_w, i32_w]
       rfl
      refine take_ (i := 7) (N := some 64) (v := ?_) (a' := ?_) (b_ 28 255) rfl rfl (by kernel_rfl) (fun _ _ _ h => h) (Or.inl ⟨by rfl, ?_⟩) hHeld ?_ ?_
      rotate_left
      ·
       rintro w' ⟨s0, s1, s2, s3, s4, s5⟩
       go_simp
       with_reducible rfl
      rotate_left
      ·
       simp only [Act.put, sa_, s0_, s1_, i64_w, i32_w]
       rfl
      refine pure_ (i := 8) (N := some 65) (v := ?_) (a' := ?_) (b_ 28 511) rfl rfl (by kernel_rfl) (fun _ _ _ h => h) (Or.inl ⟨by rfl, ?_⟩) ?_ ?_
      rotate_left
      ·
       intro w'
       go_simp
       with_reducible rfl
      rotate_left
      ·
       simp only [Act.put, sa_, s0_, s1_, i64_w, i32_w]
       rfl
      refine pure_ (i := 9) (N := some 66) (v := ?_) (a' := ?_) (b_ 28 1023) rfl rfl (by kernel_rfl) (fun _ _ _ h => h) (Or.inl ⟨by rfl, ?_⟩) ?_ ?_
      rotate_left
      ·
       intro w'
       go_simp
       with_reducible rfl
      rotate_left
      ·
       simp only [Act.put, sa_, s0_, s1_, i64_w, i32_w]
       rfl
      refine pure_ (i := 10) (N := some 67) (v := ?_) (a' := ?_) (b_ 28 2047) rfl rfl (by kernel_rfl) (fun _ _ _ h => h) (Or.inl ⟨by rfl, ?_⟩) ?_ ?_
      rotate_left
      ·
       intro w'
       go_simp
       with_reducible rfl
      rotate_left
      ·
       simp only [Act.put, sa_, s0_, s1_, i64_w, i32_w]
       rfl
      refine pure_ (i := 11) (N := some 68) (v := ?_) (a' := ?_) (b_ 28 4095) rfl rfl (by kernel_rfl) (fun _ _ _ h => h) (Or.inl ⟨by rfl, ?_⟩) ?_ ?_
      rotate_left
      ·
       intro w'
       go_simp
       with_reducible rfl
      rotate_left
      ·
       simp only [Act.put, sa_, s0_, s1_, i64_w, i32_w]
       rfl
      refine pure_ (i := 12) (N := some 69) (v := ?_) (a' := ?_) (b_ 28 8191) rfl rfl (by kernel_rfl) (fun _ _ _ h => h) (Or.inl ⟨by rfl, ?_⟩) ?_ ?_
      rotate_left
      ·
       intro w'
       go_simp
       with_reducible rfl
      rotate_left
      ·
       simp only [Act.put, sa_, s0_, s1_, i64_w, i32_w]
       rfl
      refine pure_ (i := 13) (N := some 70) (v := ?_) (a' := ?_) (b_ 28 16383) rfl rfl (by kernel_rfl) (fun _ _ _ h => h) (Or.inl ⟨by rfl, ?_⟩) ?_ ?_
      rotate_left
      ·
       intro w'
       go_simp
       with_reducible rfl
      rotate_left
      ·
       simp only [Act.put, sa_, s0_, s1_, i64_w, i32_w]
       rfl
      refine pure_ (i := 14) (N := some 71) (v := ?_) (a' := ?_) (b_ 28 32767) rfl rfl (by kernel_rfl) (fun _ _ _ h => h) (Or.inl ⟨by rfl, ?_⟩) ?_ ?_
      rotate_left
      ·
       intro w'
       go_simp
       with_reducible rfl
      rotate_left
      ·
       simp only [Act.put, sa_, s0_, s1_, i64_w, i32_w]
       rfl
      refine pure_ (i := 15) (N := some 72) (v := ?_) (a' := ?_) (b_ 28 65535) rfl rfl (by kernel_rfl) (fun _ _ _ h => h) (Or.inl ⟨by rfl, ?_⟩) ?_ ?_
      rotate_left
      ·
       intro w'
       go_simp
       with_reducible rfl
      rotate_left
      ·
       simp only [Act.put, sa_, s0_, s1_, i64_w, i32_w]
       rfl
      refine pure_ (i := 16) (N := some 73) (v := ?_) (a' := ?_) (b_ 28 131071) rfl rfl (by kernel_rfl) (fun _ _ _ h => h) (Or.inl ⟨by rfl, ?_⟩) ?_ ?_
      rotate_left
      ·
       intro w'
       go_simp
       with_reducible rfl
      rotate_left
      ·
       simp only [Act.put, sa_, s0_, s1_, i64_w, i32_w]
       rfl
      refine pure_ (i := 17) (N := some 74) (v := undef) (a' := ?_) (b_ 28 262143) rfl rfl (by kernel_rfl) (fun _ _ _ h => h) (Or.inr ⟨by rfl, rfl⟩) ?_ ?_
      rotate_left
      ·
       simp only [Act.put, sa_, s0_, s1_, i64_w, i32_w]
       rfl
      refine pure_ (i := 18) (N := some 75) (v := undef) (a' := ?_) (b_ 28 524287) rfl rfl (by kernel_rfl) (fun _ _ _ h => h) (Or.inr ⟨by rfl, rfl⟩) ?_ ?_
      rotate_left
      ·
       simp only [Act.put, sa_, s0_, s1_, i64_w, i32_w]
       rfl
      refine pure_ (i := 19) (N := some 76) (v := undef) (a' := ?_) (b_ 28 1048575) rfl rfl (by kernel_rfl) (fun _ _ _ h => h) (Or.inr ⟨by rfl, rfl⟩) ?_ ?_
      rotate_left
      ·
       simp only [Act.put, sa_, s0_, s1_, i64_w, i32_w]
       rfl
      refine pure_ (i := 20) (N := some 77) (v := undef) (a' := ?_) (b_ 28 2097151) rfl rfl (by kernel_rfl) (fun _ _ _ h => h) (Or.inr ⟨by rfl, rfl⟩) ?_ ?_
      rotate_left
      ·
       simp only [Act.put, sa_, s0_, s1_, i64_w, i32_w]
       rfl
      refine pure_ (i := 21) (N := some 78) (v := undef) (a' := ?_) (b_ 28 4194303) rfl rfl (by kernel_rfl) (fun _ _ _ h => h) (Or.inr ⟨by rfl, rfl⟩) ?_ ?_
      rotate_left
      ·
       simp only [Act.put, sa_, s0_, s1_, i64_w, i32_w]
       rfl
      refine pure_ (i := 22) (N := some 79) (v := undef) (a' := ?_) (b_ 28 8388607) rfl rfl (by kernel_rfl) (fun _ _ _ h => h) (Or.inr ⟨by rfl, rfl⟩) ?_ ?_
      rotate_left
      ·
       simp only [Act.put, sa_, s0_, s1_, i64_w, i32_w]
       rfl
      refine pure_ (i := 23) (N := some 80) (v := undef) (a' := ?_) (b_ 28 16777215) rfl rfl (by kernel_rfl) (fun _ _ _ h => h) (Or.inr ⟨by rfl, rfl⟩) ?_ ?_
      rotate_left
      ·
       simp only [Act.put, sa_, s0_, s1_, i64_w, i32_w]
       rfl
      refine pure_ (i := 24) (N := some 81) (v := undef) (a' := ?_) (b_ 28 33554431) rfl rfl (by kernel_rfl) (fun _ _ _ h => h) (Or.inr ⟨by rfl, rfl⟩) ?_ ?_
      rotate_left
      ·
       simp only [Act.put, sa_, s0_, s1_, i64_w, i32_w]
       rfl
      refine pure_ (i := 25) (N := some 82) (v := undef) (a' := ?_) (b_ 28 67108863) rfl rfl (by kernel_rfl) (fun _ _ _ h => h) (Or.inr ⟨by rfl, rfl⟩) ?_ ?_
      rotate_left
      ·
       simp only [Act.put, sa_, s0_, s1_, i64_w, i32_w]
       rfl
      refine pure_ (i := 26) (N := some 83) (v := ?_) (a' := ?_) (b_ 28 134217727) rfl rfl (by kernel_rfl) (fun _ _ _ h => h) (Or.inl ⟨by rfl, ?_⟩) ?_ ?_
      rotate_left
      ·
       intro w'
       go_simp
       with_reducible rfl
      rotate_left
      ·
       simp only [Act.put, sa_, s0_, s1_, i64_w, i32_w]
       rfl
      refine pure_ (i := 27) (N := some 84) (v := ?_) (a' := ?_) (b_ 28 268435455) rfl rfl (by kernel_rfl) (fun _ _ _ h => h) (Or.inl ⟨by rfl, ?_⟩) ?_ ?_
      rotate_left
      ·
       intro w'
       go_simp
       with_reducible rfl
      rotate_left
      ·
       simp only [Act.put, sa_, s0_, s1_, i64_w, i32_w]
       rfl
      refine done_ (by kernel_rfl) ?_
      have hq0 := (M2.out.cell 0).trans rfl
      go_wp2_with (at_mapUpdate; refine wpList_update_set rfl (.tmp 85) (.tmp 87) (.const (.bool true)) rfl B names x.f0 rfl rfl rfl M2.out.map (by omega) hnn ?_; intro w9 hs_ hg_; have S9 := Aside0.mk (M2.out.forget.put hs_ hg_); clear hs_ hg_)
      refine ⟨⟨i + 1, x.f0 :: names, by simp, hi, HN2, HV3, S9⟩, ?_⟩
      show lk.length - ((i : Int) + 1).toNat < lk.length - ((i : Int)).toNat
      omega
     have hi3 : decide (0 < (i : Int)) = true := decide_eq_true (by omega)
     have hi4 : decide (0 < i) = true := decide_eq_true hi0
     obtain ⟨ji, hji⟩ : ∃ j_ : Int, wrap64 ((i : Int) - 1) = j_ := ⟨_, rfl⟩
     have hjw : IntKind.i64.wrap ((i : Int) - 1) = ji := (i64_w _).trans hji
     have hjv : ji = (i : Int) - 1 := by
      have hln := HCK.out.2.1
      rw [← hji, w64 (by omega) (by omega)]
     have hj0 : 0 ≤ ji := by omega
     have hj1 : ji < (lk.length : Int) := by omega
     obtain ⟨ad3, e3, _, _, _, _, hp4⟩ := at_T32 HCK.out ji hj0 hj1
     obtain rfl := Option.some.inj e3
     obtain ⟨p, hp⟩ : ∃ p, rd_T32 lk ji = p := ⟨_, rfl⟩
     rw [hp] at hp4
     have HPV := Aside0.mk hp4
     have HPP : Aside0 (rd_T32 lk ((i : Int) - 1) = p) := ⟨by rw [← hjv]; exact hp⟩
     clear hp4 hp hjv
     cases hbl : Op.bytesLess p.f4.toList x.f3.toList with
     | false =>
      obtain rfl : false = r := by
       have := HV2.out
       rw [if_neg (by unfold okS; rw [htb, hsn, HPP.out, if_neg (show ¬ i = 0 by omega), decide_eq_true hk0]; simp [overS, leS, hbl])] at this
       exact this
      have hbl2 : (!(Op.bytesLess p.f4.toList x.f3.toList)) = true := by rw [hbl]; rfl
      clear HV2 HN2 hnn hsn htb
      refine start_ (n := 28) (S := fun w' => w'.cell? ⟨gm, 0, none⟩ = some (.string x.f0) ∧ w'.cell? ⟨gm, 1, none⟩ = some (.int .i64 x.f1) ∧ w'.cell? ⟨gm, 2, none⟩ = some (.int .i64 x.f2) ∧ w'.cell? ⟨gm, 3, none⟩ = some (.string x.f3) ∧ w'.cell? ⟨gm, 4, none⟩ = some (.string x.f4) ∧ (Instr.lookup 85 (.map (some B)) (.string x.f0) false).run Try.prog w' = .ok (.bool false) w' ∧ w'.cell? ⟨(ad2.add (ji.toNat * 5)).block, (ad2.add (ji.toNat * 5)).off + 4, none⟩ = some (.string p.f4)) (ds := []) (b_ 28 0) (by kernel_rfl) rfl rfl ⟨(MM.out.cell 0).trans rfl, (MM.out.cell 1).trans rfl, (MM.out.cell 2).trans rfl, (MM.out.cell 3).trans rfl, (MM.out.cell 4).trans rfl, HLK.out _ MM.out.map, cl_ (below_drew1 MM.out.bel) HPV.out⟩ (fun hHeld => ?_)
      have n_ := Aside0.mk (MSt.drew MM.out)
      clear MM
      have MM := n_
      clear n_
      generalize W.drew = ws at MM hHeld ⊢
      refine take_ (i := 0) (N := some 57) (v := ?_) (a' := ?_) (b_ 28 1) rfl rfl (by kernel_rfl) (fun _ _ _ h => h) (Or.inl ⟨by rfl, ?_⟩) hHeld ?_ ?_
      rotate_left
      ·
       rintro w' ⟨s0, s1, s2, s3, s4, s5, s6⟩
       go_simp
       with_reducible rfl
      rotate_left
      ·
       simp only [Act.put, sa_, s0_, s1_, i64_w, i32_w]
       rfl
      refine one_ (i := 1) (N := some 58) (b_ 28 3) rfl rfl (by kernel_rfl) (by decide) (fun K hK => ?_)
      refine goes_ Try.func57 (by kernel_rfl) rfl #[.agg #[.string x.f0, .int .i64 x.f1, .int .i64 x.f2, .string x.f3, .string x.f4]] (by rfl) rfl rfl (by simp only [List.map_toArray, List.map_cons, List.map_nil]; rfl) ?_
      with_reducible refine (version_table.calls x.f0 x.f1 x.f2 x.f3 x.f4 true _ HTF.out).mono ?_
      rintro e w7 ⟨rfl, hb_⟩
      refine ⟨_, rfl, ?_⟩
      have M2 := Aside0.mk (MM.out.below hb_)
      clear hb_
      refine hK.out _ _ ⟨(M2.out.cell 0).trans rfl, (M2.out.cell 1).trans rfl, (M2.out.cell 2).trans rfl, (M2.out.cell 3).trans rfl, (M2.out.cell 4).trans rfl, HLK.out _ M2.out.map, cl_ M2.out.bel HPV.out⟩ (fun hHeld => ?_)
      clear hK K
      refine norm_ (a' := ?_) ?_ ?_
      rotate_left
      ·
       show Act.put _ (some 58) _ = _
       simp only [Act.put, sa_, s0_, s1_, i64_w, i32_w]
       rfl
      refine pure_ (i := 2) (N := some 59) (v := ?_) (a' := ?_) (b_ 28 7) rfl rfl (by kernel_rfl) (fun _ _ _ h => h) (Or.inl ⟨by rfl, ?_⟩) ?_ ?_
      rotate_left
      ·
       intro w'
       go_simp
       with_reducible rfl
      rotate_left
      ·
       simp only [Act.put, sa_, s0_, s1_, i64_w, i32_w]
       rfl
      refine pure_ (i := 3) (N := some 60) (v := ?_) (a' := ?_) (b_ 28 15) rfl rfl (by kernel_rfl) (fun _ _ _ h => h) (Or.inl ⟨by rfl, ?_⟩) ?_ ?_
      rotate_left
      ·
       intro w'
       go_simp
       with_reducible rfl
      rotate_left
      ·
       simp only [Act.put, sa_, s0_, s1_, i64_w, i32_w]
       rfl
      refine pure_ (i := 4) (N := some 61) (v := ?_) (a' := ?_) (b_ 28 31) rfl rfl (by kernel_rfl) (fun _ _ _ h => h) (Or.inl ⟨by rfl, ?_⟩) ?_ ?_
      rotate_left
      ·
       intro w'
       go_simp
       with_reducible rfl
      rotate_left
      ·
       simp only [Act.put, sa_, s0_, s1_, i64_w, i32_w]
       rfl
      refine pure_ (i := 5) (N := some 62) (v := ?_) (a' := ?_) (b_ 28 63) rfl rfl (by kernel_rfl) (fun _ _ _ h => h) (Or.inl ⟨by rfl, ?_⟩) ?_ ?_
      rotate_left
      ·
       intro w'
       go_simp
       with_reducible rfl
      rotate_left
      ·
       simp only [Act.put, sa_, s0_, s1_, i64_w, i32_w]
       rfl
      refine take_ (i := 6) (N := some 63) (v := ?_) (a' := ?_) (b_ 28 127) rfl rfl (by kernel_rfl) (fun _ _ _ h => h) (Or.inl ⟨by rfl, ?_⟩) hHeld ?_ ?_
      rotate_left
      ·
       rintro w' ⟨s0, s1, s2, s3, s4, s5, s6⟩
       go_simp
       with_reducible rfl
      rotate_left
      ·
       simp only [Act.put, sa_, s0_, s1_, i64_w, i32_w]
       rfl
      refine take_ (i := 7) (N := some 64) (v := ?_) (a' := ?_) (b_ 28 255) rfl rfl (by kernel_rfl) (fun _ _ _ h => h) (Or.inl ⟨by rfl, ?_⟩) hHeld ?_ ?_
      rotate_left
      ·
       rintro w' ⟨s0, s1, s2, s3, s4, s5, s6⟩
       go_simp
       with_reducible rfl
      rotate_left
      ·
       simp only [Act.put, sa_, s0_, s1_, i64_w, i32_w]
       rfl
      refine pure_ (i := 8) (N := some 65) (v := ?_) (a' := ?_) (b_ 28 511) rfl rfl (by kernel_rfl) (fun _ _ _ h => h) (Or.inl ⟨by rfl, ?_⟩) ?_ ?_
      rotate_left
      ·
       intro w'
       go_simp
       with_reducible rfl
      rotate_left
      ·
       simp only [Act.put, sa_, s0_, s1_, i64_w, i32_w]
       rfl
      refine pure_ (i := 9) (N := some 66) (v := ?_) (a' := ?_) (b_ 28 1023) rfl rfl (by kernel_rfl) (fun _ _ _ h => h) (Or.inl ⟨by rfl, ?_⟩) ?_ ?_
      rotate_left
      ·
       intro w'
       go_simp
       with_reducible rfl
      rotate_left
      ·
       simp only [Act.put, sa_, s0_, s1_, i64_w, i32_w]
       rfl
      refine pure_ (i := 10) (N := some 67) (v := ?_) (a' := ?_) (b_ 28 2047) rfl rfl (by kernel_rfl) (fun _ _ _ h => h) (Or.inl ⟨by rfl, ?_⟩) ?_ ?_
      rotate_left
      ·
       intro w'
       go_simp
       with_reducible rfl
      rotate_left
      ·
       simp only [Act.put, sa_, s0_, s1_, i64_w, i32_w]
       rfl
      refine pure_ (i := 11) (N := some 68) (v := ?_) (a' := ?_) (b_ 28 4095) rfl rfl (by kernel_rfl) (fun _ _ _ h => h) (Or.inl ⟨by rfl, ?_⟩) ?_ ?_
      rotate_left
      ·
       intro w'
       go_simp
       with_reducible rfl
      rotate_left
      ·
       simp only [Act.put, sa_, s0_, s1_, i64_w, i32_w]
       rfl
      refine pure_ (i := 12) (N := some 69) (v := ?_) (a' := ?_) (b_ 28 8191) rfl rfl (by kernel_rfl) (fun _ _ _ h => h) (Or.inl ⟨by rfl, ?_⟩) ?_ ?_
      rotate_left
      ·
       intro w'
       go_simp
       with_reducible rfl
      rotate_left
      ·
       simp only [Act.put, sa_, s0_, s1_, i64_w, i32_w]
       rfl
      refine pure_ (i := 13) (N := some 70) (v := ?_) (a' := ?_) (b_ 28 16383) rfl rfl (by kernel_rfl) (fun _ _ _ h => h) (Or.inl ⟨by rfl, ?_⟩) ?_ ?_
      rotate_left
      ·
       intro w'
       go_simp
       with_reducible rfl
      rotate_left
      ·
       simp only [Act.put, sa_, s0_, s1_, i64_w, i32_w]
       rfl
      refine pure_ (i := 14) (N := some 71) (v := ?_) (a' := ?_) (b_ 28 32767) rfl rfl (by kernel_rfl) (fun _ _ _ h => h) (Or.inl ⟨by rfl, ?_⟩) ?_ ?_
      rotate_left
      ·
       intro w'
       go_simp
       with_reducible rfl
      rotate_left
      ·
       simp only [Act.put, sa_, s0_, s1_, i64_w, i32_w]
       rfl
      refine pure_ (i := 15) (N := some 72) (v := ?_) (a' := ?_) (b_ 28 65535) rfl rfl (by kernel_rfl) (fun _ _ _ h => h) (Or.inl ⟨by rfl, ?_⟩) ?_ ?_
      rotate_left
      ·
       intro w'
       go_simp
       with_reducible rfl
      rotate_left
      ·
       simp only [Act.put, sa_, s0_, s1_, i64_w, i32_w]
       rfl
      refine pure_ (i := 16) (N := some 73) (v := ?_) (a' := ?_) (b_ 28 131071) rfl rfl (by kernel_rfl) (fun _ _ _ h => h) (Or.inl ⟨by rfl, ?_⟩) ?_ ?_
      rotate_left
      ·
       intro w'
       go_simp
       with_reducible rfl
      rotate_left
      ·
       simp only [Act.put, sa_, s0_, s1_, i64_w, i32_w]
       rfl
      refine pure_ (i := 17) (N := some 74) (v := ?_) (a' := ?_) (b_ 28 262143) rfl rfl (by kernel_rfl) (fun _ _ _ h => h) (Or.inl ⟨by rfl, ?_⟩) ?_ ?_
      rotate_left
      ·
       intro w'
       go_simp
       with_reducible rfl
      rotate_left
      ·
       simp only [Act.put, sa_, s0_, s1_, i64_w, i32_w]
       rfl
      refine pure_ (i := 19) (N := some 76) (v := ?_) (a' := ?_) (b_ 28 786431) rfl rfl (by kernel_rfl) (fun _ _ _ h => h) (Or.inl ⟨by rfl, ?_⟩) ?_ ?_
      rotate_left
      ·
       intro w'
       go_simp
       with_reducible rfl
      rotate_left
      ·
       simp only [Act.put, sa_, s0_, s1_, i64_w, i32_w]
       rfl
      refine pure_ (i := 20) (N := some 77) (v := ?_) (a' := ?_) (b_ 28 1835007) rfl rfl (by kernel_rfl) (fun _ _ _ h => h) (Or.inl ⟨by rfl, ?_⟩) ?_ ?_
      rotate_left
      ·
       intro w'
       go_simp
       with_reducible rfl
      rotate_left
      ·
       simp only [Act.put, sa_, s0_, s1_, i64_w, i32_w]
       rfl
      refine pure_ (i := 21) (N := some 78) (v := ?_) (a' := ?_) (b_ 28 3932159) rfl rfl (by kernel_rfl) (fun _ _ _ h => h) (Or.inl ⟨by rfl, ?_⟩) ?_ ?_
      rotate_left
      ·
       intro w'
       go_simp
       with_reducible rfl
      rotate_left
      ·
       simp only [Act.put, sa_, s0_, s1_, i64_w, i32_w]
       rfl
      refine pure_ (i := 22) (N := some 79) (v := ?_) (a' := ?_) (b_ 28 8126463) rfl rfl (by kernel_rfl) (fun _ _ _ h => h) (Or.inl ⟨by rfl, ?_⟩) ?_ ?_
      rotate_left
      ·
       intro w'
       go_simp
       with_reducible rfl
      rotate_left
      ·
       simp only [Act.put, sa_, s0_, s1_, i64_w, i32_w]
       rfl
      refine pure_ (i := 23) (N := some 80) (v := ?_) (a' := ?_) (b_ 28 16515071) rfl rfl (by kernel_rfl) (fun _ _ _ h => h) (Or.inl ⟨by rfl, ?_⟩) ?_ ?_
      rotate_left
      ·
       intro w'
       go_simp
       with_reducible rfl
      rotate_left
      ·
       simp only [Act.put, sa_, s0_, s1_, i64_w, i32_w]
       rfl
      refine take_ (i := 18) (N := some 75) (v := ?_) (a' := ?_) (b_ 28 16777215) rfl rfl (by kernel_rfl) (fun _ _ _ h => h) (Or.inl ⟨by rfl, ?_⟩) hHeld ?_ ?_
      rotate_left
      ·
       rintro w' ⟨s0, s1, s2, s3, s4, s5, s6⟩
       go_simp
       with_reducible rfl
      rotate_left
      ·
       simp only [Act.put, sa_, s0_, s1_, i64_w, i32_w]
       rfl
      refine take_ (i := 24) (N := some 81) (v := ?_) (a' := ?_) (b_ 28 33554431) rfl rfl (by kernel_rfl) (fun _ _ _ h => h) (Or.inl ⟨by rfl, ?_⟩) hHeld ?_ ?_
      rotate_left
      ·
       rintro w' ⟨s0, s1, s2, s3, s4, s5, s6⟩
       go_simp
       with_reducible rfl
      rotate_left
      ·
       simp only [Act.put, sa_, s0_, s1_, i64_w, i32_w]
       rfl
      refine pure_ (i := 25) (N := some 82) (v := ?_) (a' := ?_) (b_ 28 67108863) rfl rfl (by kernel_rfl) (fun _ _ _ h => h) (Or.inl ⟨by rfl, ?_⟩) ?_ ?_
      rotate_left
      ·
       intro w'
       go_simp
       with_reducible rfl
      rotate_left
      ·
       simp only [Act.put, sa_, s0_, s1_, i64_w, i32_w]
       rfl
      refine pure_ (i := 26) (N := some 83) (v := ?_) (a' := ?_) (b_ 28 134217727) rfl rfl (by kernel_rfl) (fun _ _ _ h => h) (Or.inl ⟨by rfl, ?_⟩) ?_ ?_
      rotate_left
      ·
       intro w'
       go_simp
       with_reducible rfl
      rotate_left
      ·
       simp only [Act.put, sa_, s0_, s1_, i64_w, i32_w]
       rfl
      refine pure_ (i := 27) (N := some 84) (v := ?_) (a' := ?_) (b_ 28 268435455) rfl rfl (by kernel_rfl) (fun _ _ _ h => h) (Or.inl ⟨by rfl, ?_⟩) ?_ ?_
      rotate_left
      ·
       intro w'
       go_simp
       with_reducible rfl
      rotate_left
      ·
       simp only [Act.put, sa_, s0_, s1_, i64_w, i32_w]
       rfl
      refine done_ (by kernel_rfl) ?_
      go_wp2
      go_ret
      exact ⟨rfl, M2.out.bel⟩
     | true =>
      have HV3 : Aside0 ((match lvlS k (if i + 1 = 0 then none else some (rd_T32 lk (((i + 1 : Nat) : Int) - 1)).f4) (x.f0 :: names) (lk.drop (i + 1)) with | none => false | some n => lvlsS (k + 1) n (l0_0.drop (k + 1))) = r) := ⟨by
       have := HV2.out
       rw [if_pos (by unfold okS; rw [htb, hsn]; rw [HPP.out, if_neg (show ¬ i = 0 by omega), decide_eq_true hk0]; simp [overS, leS, hbl])] at this
       rw [if_neg (by omega), show ((i + 1 : Nat) : Int) - 1 = (i : Int) by omega, HX.out]
       exact this⟩
      clear HV2 hsn htb
      have hbl2 : (!(Op.bytesLess p.f4.toList x.f3.toList)) = false := by rw [hbl]; rfl
      refine start_ (n := 28) (S := fun w' => w'.cell? ⟨gm, 0, none⟩ = some (.string x.f0) ∧ w'.cell? ⟨gm, 1, none⟩ = some (.int .i64 x.f1) ∧ w'.cell? ⟨gm, 2, none⟩ = some (.int .i64 x.f2) ∧ w'.cell? ⟨gm, 3, none⟩ = some (.string x.f3) ∧ w'.cell? ⟨gm, 4, none⟩ = some (.string x.f4) ∧ (Instr.lookup 85 (.map (some B)) (.string x.f0) false).run Try.prog w' = .ok (.bool false) w' ∧ w'.cell? ⟨(ad2.add (ji.toNat * 5)).block, (ad2.add (ji.toNat * 5)).off + 4, none⟩ = some (.string p.f4)) (ds := []) (b_ 28 0) (by kernel_rfl) rfl rfl ⟨(MM.out.cell 0).trans rfl, (MM.out.cell 1).trans rfl, (MM.out.cell 2).trans rfl, (MM.out.cell 3).trans rfl, (MM.out.cell 4).trans rfl, HLK.out _ MM.out.map, cl_ (below_drew1 MM.out.bel) HPV.out⟩ (fun hHeld => ?_)
      have n_ := Aside0.mk (MSt.drew MM.out)
      clear MM
      have MM := n_
      clear n_
      generalize W.drew = ws at MM hHeld ⊢
      refine take_ (i := 0) (N := some 57) (v := ?_) (a' := ?_) (b_ 28 1) rfl rfl (by kernel_rfl) (fun _ _ _ h => h) (Or.inl ⟨by rfl, ?_⟩) hHeld ?_ ?_
      rotate_left
      ·
       rintro w' ⟨s0, s1, s2, s3, s4, s5, s6⟩
       go_simp
       with_reducible rfl
      rotate_left
      ·
       simp only [Act.put, sa_, s0_, s1_, i64_w, i32_w]
       rfl
      refine one_ (i := 1) (N := some 58) (b_ 28 3) rfl rfl (by kernel_rfl) (by decide) (fun K hK => ?_)
      refine goes_ Try.func57 (by kernel_rfl) rfl #[.agg #[.string x.f0, .int .i64 x.f1, .int .i64 x.f2, .string x.f3, .string x.f4]] (by rfl) rfl rfl (by simp only [List.map_toArray, List.map_cons, List.map_nil]; rfl) ?_
      with_reducible refine (version_table.calls x.f0 x.f1 x.f2 x.f3 x.f4 true _ HTF.out).mono ?_
      rintro e w7 ⟨rfl, hb_⟩
      refine ⟨_, rfl, ?_⟩
      have M2 := Aside0.mk (MM.out.below hb_)
      clear hb_
      refine hK.out _ _ ⟨(M2.out.cell 0).trans rfl, (M2.out.cell 1).trans rfl, (M2.out.cell 2).trans rfl, (M2.out.cell 3).trans rfl, (M2.out.cell 4).trans rfl, HLK.out _ M2.out.map, cl_ M2.out.bel HPV.out⟩ (fun hHeld => ?_)
      clear hK K
      refine norm_ (a' := ?_) ?_ ?_
      rotate_left
      ·
       show Act.put _ (some 58) _ = _
       simp only [Act.put, sa_, s0_, s1_, i64_w, i32_w]
       rfl
      refine pure_ (i := 2) (N := some 59) (v := ?_) (a' := ?_) (b_ 28 7) rfl rfl (by kernel_rfl) (fun _ _ _ h => h) (Or.inl ⟨by rfl, ?_⟩) ?_ ?_
      rotate_left
      ·
       intro w'
       go_simp
       with_reducible rfl
      rotate_left
      ·
       simp only [Act.put, sa_, s0_, s1_, i64_w, i32_w]
       rfl
      refine pure_ (i := 3) (N := some 60) (v := ?_) (a' := ?_) (b_ 28 15) rfl rfl (by kernel_rfl) (fun _ _ _ h => h) (Or.inl ⟨by rfl, ?_⟩) ?_ ?_
      rotate_left
      ·
       intro w'
       go_simp
       with_reducible rfl
      rotate_left
      ·
       simp only [Act.put, sa_, s0_, s1_, i64_w, i32_w]
       rfl
      refine pure_ (i := 4) (N := some 61) (v := ?_) (a' := ?_) (b_ 28 31) rfl rfl (by kernel_rfl) (fun _ _ _ h => h) (Or.inl ⟨by rfl, ?_⟩) ?_ ?_
      rotate_left
      ·
       intro w'
       go_simp
       with_reducible rfl
      rotate_left
      ·
       simp only [Act.put, sa_, s0_, s1_, i64_w, i32_w]
       rfl
      refine pure_ (i := 5) (N := some 62) (v := ?_) (a' := ?_) (b_ 28 63) rfl rfl (by kernel_rfl) (fun _ _ _ h => h) (Or.inl ⟨by rfl, ?_⟩) ?_ ?_
      rotate_left
      ·
       intro w'
       go_simp
       with_reducible rfl
      rotate_left
      ·
       simp only [Act.put, sa_, s0_, s1_, i64_w, i32_w]
       rfl
      refine take_ (i := 6) (N := some 63) (v := ?_) (a' := ?_) (b_ 28 127) rfl rfl (by kernel_rfl) (fun _ _ _ h => h) (Or.inl ⟨by rfl, ?_⟩) hHeld ?_ ?_
      rotate_left
      ·
       rintro w' ⟨s0, s1, s2, s3, s4, s5, s6⟩
       go_simp
       with_reducible rfl
      rotate_left
      ·
       simp only [Act.put, sa_, s0_, s1_, i64_w, i32_w]
       rfl
      refine take_ (i := 7) (N := some 64) (v := ?_) (a' := ?_) (b_ 28 255) rfl rfl (by kernel_rfl) (fun _ _ _ h => h) (Or.inl ⟨by rfl, ?_⟩) hHeld ?_ ?_
      rotate_left
      ·
       rintro w' ⟨s0, s1, s2, s3, s4, s5, s6⟩
       go_simp
       with_reducible rfl
      rotate_left
      ·
       simp only [Act.put, sa_, s0_, s1_, i64_w, i32_w]
       rfl
      refine pure_ (i := 8) (N := some 65) (v := ?_) (a' := ?_) (b_ 28 511) rfl rfl (by kernel_rfl) (fun _ _ _ h => h) (Or.inl ⟨by rfl, ?_⟩) ?_ ?_
      rotate_left
      ·
       intro w'
       go_simp
       with_reducible rfl
      rotate_left
      ·
       simp only [Act.put, sa_, s0_, s1_, i64_w, i32_w]
       rfl
      refine pure_ (i := 9) (N := some 66) (v := ?_) (a' := ?_) (b_ 28 1023) rfl rfl (by kernel_rfl) (fun _ _ _ h => h) (Or.inl ⟨by rfl, ?_⟩) ?_ ?_
      rotate_left
      ·
       intro w'
       go_simp
       with_reducible rfl
      rotate_left
      ·
       simp only [Act.put, sa_, s0_, s1_, i64_w, i32_w]
       rfl
      refine pure_ (i := 10) (N := some 67) (v := ?_) (a' := ?_) (b_ 28 2047) rfl rfl (by kernel_rfl) (fun _ _ _ h => h) (Or.inl ⟨by rfl, ?_⟩) ?_ ?_
      rotate_left
      ·
       intro w'
       go_simp
       with_reducible rfl
      rotate_left
      ·
       simp only [Act.put, sa_, s0_, s1_, i64_w, i32_w]
       rfl
      refine pure_ (i := 11) (N := some 68) (v := ?_) (a' := ?_) (b_ 28 4095) rfl rfl (by kernel_rfl) (fun _ _ _ h => h) (Or.inl ⟨by rfl, ?_⟩) ?_ ?_
      rotate_left
      ·
       intro w'
       go_simp
       with_reducible rfl
      rotate_left
      ·
       simp only [Act.put, sa_, s0_, s1_, i64_w, i32_w]
       rfl
      refine pure_ (i := 12) (N := some 69) (v := ?_) (a' := ?_) (b_ 28 8191) rfl rfl (by kernel_rfl) (fun _ _ _ h => h) (Or.inl ⟨by rfl, ?_⟩) ?_ ?_
      rotate_left
      ·
       intro w'
       go_simp
       with_reducible rfl
      rotate_left
      ·
       simp only [Act.put, sa_, s0_, s1_, i64_w, i32_w]
       rfl
      refine pure_ (i := 13) (N := some 70) (v := ?_) (a' := ?_) (b_ 28 16383) rfl rfl (by kernel_rfl) (fun _ _ _ h => h) (Or.inl ⟨by rfl, ?_⟩) ?_ ?_
      rotate_left
      ·
       intro w'
       go_simp
       with_reducible rfl
      rotate_left
      ·
       simp only [Act.put, sa_, s0_, s1_, i64_w, i32_w]
       rfl
      refine pure_ (i := 14) (N := some 71) (v := ?_) (a' := ?_) (b_ 28 32767) rfl rfl (by kernel_rfl) (fun _ _ _ h => h) (Or.inl ⟨by rfl, ?_⟩) ?_ ?_
      rotate_left
      ·
       intro w'
       go_simp
       with_reducible rfl
      rotate_left
      ·
       simp only [Act.put, sa_, s0_, s1_, i64_w, i32_w]
       rfl
      refine pure_ (i := 15) (N := some 72) (v := ?_) (a' := ?_) (b_ 28 65535) rfl rfl (by kernel_rfl) (fun _ _ _ h => h) (Or.inl ⟨by rfl, ?_⟩) ?_ ?_
      rotate_left
      ·
       intro w'
       go_simp
       with_reducible rfl
      rotate_left
      ·
       simp only [Act.put, sa_, s0_, s1_, i64_w, i32_w]
       rfl
      refine pure_ (i := 16) (N := some 73) (v := ?_) (a' := ?_) (b_ 28 131071) rfl rfl (by kernel_rfl) (fun _ _ _ h => h) (Or.inl ⟨by rfl, ?_⟩) ?_ ?_
      rotate_left
      ·
       intro w'
       go_simp
       with_reducible rfl
      rotate_left
      ·
       simp only [Act.put, sa_, s0_, s1_, i64_w, i32_w]
       rfl
      refine pure_ (i := 17) (N := some 74) (v := ?_) (a' := ?_) (b_ 28 262143) rfl rfl (by kernel_rfl) (fun _ _ _ h => h) (Or.inl ⟨by rfl, ?_⟩) ?_ ?_
      rotate_left
      ·
       intro w'
       go_simp
       with_reducible rfl
      rotate_left
      ·
       simp only [Act.put, sa_, s0_, s1_, i64_w, i32_w]
       rfl
      refine pure_ (i := 19) (N := some 76) (v := ?_) (a' := ?_) (b_ 28 786431) rfl rfl (by kernel_rfl) (fun _ _ _ h => h) (Or.inl ⟨by rfl, ?_⟩) ?_ ?_
      rotate_left
      ·
       intro w'
       go_simp
       with_reducible rfl
      rotate_left
      ·
       simp only [Act.put, sa_, s0_, s1_, i64_w, i32_w]
       rfl
      refine pure_ (i := 20) (N := some 77) (v := ?_) (a' := ?_) (b_ 28 1835007) rfl rfl (by kernel_rfl) (fun _ _ _ h => h) (Or.inl ⟨by rfl, ?_⟩) ?_ ?_
      rotate_left
      ·
       intro w'
       go_simp
       with_reducible rfl
      rotate_left
      ·
       simp only [Act.put, sa_, s0_, s1_, i64_w, i32_w]
       rfl
      refine pure_ (i := 21) (N := some 78) (v := ?_) (a' := ?_) (b_ 28 3932159) rfl rfl (by kernel_rfl) (fun _ _ _ h => h) (Or.inl ⟨by rfl, ?_⟩) ?_ ?_
      rotate_left
      ·
       intro w'
       go_simp
       with_reducible rfl
      rotate_left
      ·
       simp only [Act.put, sa_, s0_, s1_, i64_w, i32_w]
       rfl
      refine pure_ (i := 22) (N := some 79) (v := ?_) (a' := ?_) (b_ 28 8126463) rfl rfl (by kernel_rfl) (fun _ _ _ h => h) (Or.inl ⟨by rfl, ?_⟩) ?_ ?_
      rotate_left
      ·
       intro w'
       go_simp
       with_reducible rfl
      rotate_left
      ·
       simp only [Act.put, sa_, s0_, s1_, i64_w, i32_w]
       rfl
      refine pure_ (i := 23) (N := some 80) (v := ?_) (a' := ?_) (b_ 28 16515071) rfl rfl (by kernel_rfl) (fun _ _ _ h => h) (Or.inl ⟨by rfl, ?_⟩) ?_ ?_
      rotate_left
      ·
       intro w'
       go_simp
       with_reducible rfl
      rotate_left
      ·
       simp only [Act.put, sa_, s0_, s1_, i64_w, i32_w]
       rfl
      refine take_ (i := 18) (N := some 75) (v := ?_) (a' := ?_) (b_ 28 16777215) rfl rfl (by kernel_rfl) (fun _ _ _ h => h) (Or.inl ⟨by rfl, ?_⟩) hHeld ?_ ?_
      rotate_left
      ·
       rintro w' ⟨s0, s1, s2, s3, s4, s5, s6⟩
       go_simp
       with_reducible rfl
      rotate_left
      ·
       simp only [Act.put, sa_, s0_, s1_, i64_w, i32_w]
       rfl
      refine take_ (i := 24) (N := some 81) (v := ?_) (a' := ?_) (b_ 28 33554431) rfl rfl (by kernel_rfl) (fun _ _ _ h => h) (Or.inl ⟨by rfl, ?_⟩) hHeld ?_ ?_
      rotate_left
      ·
       rintro w' ⟨s0, s1, s2, s3, s4, s5, s6⟩
       go_simp
       with_reducible rfl
      rotate_left
      ·
       simp only [Act.put, sa_, s0_, s1_, i64_w, i32_w]
       rfl
      refine pure_ (i := 25) (N := some 82) (v := ?_) (a' := ?_) (b_ 28 67108863) rfl rfl (by kernel_rfl) (fun _ _ _ h => h) (Or.inl ⟨by rfl, ?_⟩) ?_ ?_
      rotate_left
      ·
       intro w'
       go_simp
       with_reducible rfl
      rotate_left
      ·
       simp only [Act.put, sa_, s0_, s1_, i64_w, i32_w]
       rfl
      refine pure_ (i := 26) (N := some 83) (v := ?_) (a' := ?_) (b_ 28 134217727) rfl rfl (by kernel_rfl) (fun _ _ _ h => h) (Or.inl ⟨by rfl, ?_⟩) ?_ ?_
      rotate_left
      ·
       intro w'
       go_simp
       with_reducible rfl
      rotate_left
      ·
       simp only [Act.put, sa_, s0_, s1_, i64_w, i32_w]
       rfl
      refine pure_ (i := 27) (N := some 84) (v := ?_) (a' := ?_) (b_ 28 268435455) rfl rfl (by kernel_rfl) (fun _ _ _ h => h) (Or.inl ⟨by rfl, ?_⟩) ?_ ?_
      rotate_left
      ·
       intro w'
       go_simp
       with_reducible rfl
      rotate_left
      ·
       simp only [Act.put, sa_, s0_, s1_, i64_w, i32_w]
       rfl
      refine done_ (by kernel_rfl) ?_
      have hq0 := (M2.out.cell 0).trans rfl
      go_wp2_with (at_mapUpdate; refine wpList_update_set rfl (.tmp 85) (.tmp 87) (.const (.bool true)) rfl B names x.f0 rfl rfl rfl M2.out.map (by omega) hnn ?_; intro w9 hs_ hg_; have S9 := Aside0.mk (M2.out.forget.put hs_ hg_); clear hs_ hg_)
      refine ⟨⟨i + 1, x.f0 :: names, by simp, hi, HN2, HV3, S9⟩, ?_⟩
      show lk.length - ((i : Int) + 1).toNat < lk.length - ((i : Int)).toNat
      omega

end Go.Proofs.Ytdlghckcbbjipaa.R

/- By how much levels are too full, walked. -/
import Derived.Test.YtgeeignipammhaaRx4
import Derived.Test.YtgeeignipammhaaPlain
import Derived.Test.YtgeeignipammhaaRet
import Derived.Test.YtgeeignipammhaaWMore
import Derived.RangeFuncBox
import Derived.Test.YtgeeignipammhaaCo
import Derived.Test.YtgeeignipammhaaRVM
import Derived.Test.YtgeeignipammhaaRV1
namespace Go.Proofs.Ytgeeignipammhaa.R
open Go.RowKit Go.Proofs.Ytgeeignipammhaa.Ret Go.Proofs.Ytgeeignipammhaa.Plain Go.Proofs.Ytgeeignipammhaa.Co Go.Proofs.YtgeeignipammhaaW.PrintWords Go.Proofs.YtgeeignipammhaaW.PrintLast Go.Proofs.YtgeeignipammhaaW.PrintMore
set_option linter.unusedVariables false
set_option linter.unusedSimpArgs false
attribute [local go_sem] max2_int min2_int max_two min_two
set_option maxHeartbeats 8000000
set_option maxRecDepth 100000
/-! ### by how much levels are too full -/
/-- What three blocks hold in a round: the version, the answer's place, the scores. -/
structure OSt (w : World) (gv gr go : Nat) (cv co : Array Value) (W : World) : Prop where
  bv : W.heap[gv]? = some (.cells cv 24 (0, 0))
  br : W.heap[gr]? = some (.cells #[.int .i64 0, .int .i64 0, .int .i64 0, .int .i64 0] 57 (0, 0))
  bo : W.heap[go]? = some (.cells co 57 (0, 0))
  bel : Below w.heap.size w W
  lr : w.heap.size ≤ gr
  lo : w.heap.size ≤ go
  nov : go ≠ gv
  nor : go ≠ gr
  nrv : gr ≠ gv
theorem OSt.set {w W : World} {gv gr go : Nat} {cv co co' : Array Value} (h : OSt w gv gr go cv co W) (i : Nat) (y : Value) (e : co.setIfInBounds i y = co') : OSt w gv gr go cv co' (W.setCell ⟨go, i, none⟩ y) :=
  ⟨blk_far (p := ⟨go, i, none⟩) h.bv (Ne.symm h.nov) _, blk_far (p := ⟨go, i, none⟩) h.br (Ne.symm h.nor) _, blk_put h.bo i y e, below_set h.bel h.lo, h.lr, h.lo, h.nov, h.nor, h.nrv⟩
def overL (l : List S28) (m : Int) : Int := max 0 ((l.length : Int) - m)
def scoresL (l : List (List S28)) (k : Nat) : Array Value :=
  #[.int .i64 (if 0 < k then overL (rd_L3 l 0) 3 else 0), .int .i64 (if 1 < k then overL (rd_L3 l 1) 8 else 0), .int .i64 (if 2 < k then overL (rd_L3 l 2) 16 else 0), .int .i64 0]
theorem scores_calls (A0_0 : Option Addr) (c0_0 : Nat) (l0_0 : List (List S28)) (a0_1 : Int) (a0_2 : Int) (a0_3 : ByteArray) (w : World) (hr0_0 : Kd.C (Kd.slice 28 k28) w A0_0 l0_0.length l0_0) (h4 : l0_0.length = 4) (hb4 : l0_0.flatten.length ≤ 100000) :
    Calls Try.prog 23 #[.agg #[.slice A0_0 l0_0.length c0_0, .int .i64 a0_1, .int .i64 a0_2, .string a0_3]] w fun e w' => e = .returned (.agg (scoresL l0_0 3)) ∧ Below w.heap.size w w' := by
  have hu24 := Try.underlying24
  have HR0 := Aside0.mk hr0_0
  have H4 := Aside0.mk h4
  have h5 : l0_0.length < 9223372036854775807 := by omega
  have h6 : (0 : Int) < (l0_0.length : Int) := by omega
  have h7 : (1 : Int) < (l0_0.length : Int) := by omega
  have h8 : (2 : Int) < (l0_0.length : Int) := by omega
  have HLL : Aside0 (∀ x ∈ l0_0, x.length ≤ 100000) := ⟨fun x hx => Nat.le_trans (List.Sublist.length_le (List.sublist_flatten_of_mem hx)) hb4⟩
  clear hr0_0 h4
  go_enter Try.func23, Try.ntmps23
  go_wp2_with (first
    | ((with_reducible refine gate_dst (N := 1) rfl ?_); refine box_event ?hg (N := 1) ?hd (cs := #[.slice A0_0 l0_0.length c0_0, .int .i64 a0_1, .int .i64 a0_2, .string a0_3]) (t := 24) ?hr ?_; (case hd => rfl); (case hg => rfl); (case hr => first | (go_simp; done) | (go_simp; rfl)); intro gv hg_ w1 hbox_ hb_; have BV := Aside0.mk hbox_; have HB := Aside0.mk hb_; have GV := Aside0.mk hg_; clear hbox_ hb_ hg_)
    | ((with_reducible refine gate_dst (N := 2) rfl ?_); refine box_event ?hg (N := 2) ?hd (cs := #[.int .i64 0, .int .i64 0, .int .i64 0, .int .i64 0]) (t := 57) ?hr ?_; (case hd => rfl); (case hg => rfl); (case hr => first | (go_simp; done) | (go_simp; rfl)); intro gr hg_ w2 hbox_ hb_; have BR := Aside0.mk hbox_; have GR := Aside0.mk (show w.heap.size ≤ gr by rw [hg_]; exact below_size HB.out); have NRV := Aside0.mk (show gr ≠ gv by have := blk_lt BV.out; omega); have BV2 := Aside0.mk (blk_below BV.out hb_); have HB2 := Aside0.mk (below_step HB.out hb_); clear hbox_ hb_ hg_ BV HB)
    | ((with_reducible refine gate_dst (N := 3) rfl ?_); refine box_event ?hg (N := 3) ?hd (cs := #[.int .i64 0, .int .i64 0, .int .i64 0, .int .i64 0]) (t := 57) ?hr ?_; (case hd => rfl); (case hg => rfl); (case hr => first | (go_simp; done) | (go_simp; rfl)); intro go hg_ w3 hbox_ hb_; have S0 := Aside0.mk (show OSt w gv gr go #[.slice A0_0 l0_0.length c0_0, .int .i64 a0_1, .int .i64 a0_2, .string a0_3] (scoresL l0_0 0) w3 from ⟨blk_below BV2.out hb_, blk_below BR.out hb_, hbox_, below_step HB2.out hb_, GR.out, by rw [hg_]; exact below_size HB2.out, by have := blk_lt BV2.out; omega, by have := blk_lt BR.out; omega, NRV.out⟩); clear hbox_ hb_ hg_ BV2 HB2 BR))
  go_loopw [7] (fun v7 w' => ∃ x : Int, v7 = .int .i64 x ∧ 0 ≤ x ∧ x ≤ 3 ∧ Aside0 (OSt w gv gr go #[.slice A0_0 l0_0.length c0_0, .int .i64 a0_1, .int .i64 a0_2, .string a0_3] (scoresL l0_0 x.toNat) w')) (fun v7 w' => 3 - (match v7 with | .int _ j => j.toNat | _ => 0))
  case atStart => exact ⟨0, rfl, by omega, by omega, S0⟩
  case round =>
    clear S0
    obtain ⟨x, rfl, hx0, hx3, HS⟩ := hrel
    have hz := (blk_cell HS.out.bv 0).trans rfl
    have hix0 : (Instr.index 73 (.agg #[.int .i64 3, .int .i64 8, .int .i64 16]) (.int .i64 0)).run Try.prog wr = .ok (.int .i64 3) wr := by kernel_rfl
    have hix1 : (Instr.index 73 (.agg #[.int .i64 3, .int .i64 8, .int .i64 16]) (.int .i64 1)).run Try.prog wr = .ok (.int .i64 8) wr := by kernel_rfl
    have hix2 : (Instr.index 73 (.agg #[.int .i64 3, .int .i64 8, .int .i64 16]) (.int .i64 2)).run Try.prog wr = .ok (.int .i64 16) wr := by kernel_rfl
    have hxx : x = 0 ∨ x = 1 ∨ x = 2 ∨ x = 3 := by omega
    clear hx0 hx3
    rcases hxx with rfl | rfl | rfl | rfl
    · obtain ⟨ad, Ak, ck, e1, hy, _, _⟩ := at_lvl HR0.out 0 (by have := H4.out; omega)
      subst e1
      obtain ⟨lk, hlk⟩ : ∃ lk, l0_0[0]'(by have := H4.out; omega) = lk := ⟨_, rfl⟩
      have hrd : rd_L3 l0_0 0 = lk := by rw [← hlk]; simp [rd_L3, List.getD_eq_getElem?_getD, List.getElem?_eq_getElem (show 0 < l0_0.length by have := H4.out; omega)]
      have hl9 : lk.length ≤ 100000 := by rw [← hlk]; exact HLL.out _ (List.getElem_mem _)
      rw [hlk] at hy
      replace hy : wr.cell? ad = some (.slice Ak lk.length ck) := cl_ HS.out.bel hy
      have hs : wr.cell? ⟨go, 0, none⟩ = some (.int .i64 0) := (blk_cell HS.out.bo 0).trans rfl
      have hf := blk_frozen HS.out.bo 0
      have HW := Aside0.mk (show wrap64 ((lk.length : Int) - 3) = (lk.length : Int) - 3 from w64 (by omega) (by omega))
      go_wp2_with fail
      all_goals
        refine ⟨⟨1, rfl, by decide, by decide, ⟨HS.out.set 0 _ ?_⟩⟩, by decide⟩
        have hov : overL lk 3 = max 0 ((lk.length : Int) - 3) := rfl
        (try rw [HW.out] at *)
        simp [scoresL, hrd, hov]
        try omega
    · obtain ⟨ad, Ak, ck, e1, hy, _, _⟩ := at_lvl HR0.out 1 (by have := H4.out; omega)
      subst e1
      obtain ⟨lk, hlk⟩ : ∃ lk, l0_0[1]'(by have := H4.out; omega) = lk := ⟨_, rfl⟩
      have hrd : rd_L3 l0_0 1 = lk := by rw [← hlk]; simp [rd_L3, List.getD_eq_getElem?_getD, List.getElem?_eq_getElem (show 1 < l0_0.length by have := H4.out; omega)]
      have hl9 : lk.length ≤ 100000 := by rw [← hlk]; exact HLL.out _ (List.getElem_mem _)
      rw [hlk] at hy
      replace hy : wr.cell? ⟨ad.block, ad.off + 1, none⟩ = some (.slice Ak lk.length ck) := cl_ HS.out.bel hy
      have hs : wr.cell? ⟨go, 1, none⟩ = some (.int .i64 0) := (blk_cell HS.out.bo 1).trans rfl
      have hf := blk_frozen HS.out.bo 1
      have HW := Aside0.mk (show wrap64 ((lk.length : Int) - 8) = (lk.length : Int) - 8 from w64 (by omega) (by omega))
      go_wp2_with fail
      all_goals
        refine ⟨⟨2, rfl, by decide, by decide, ⟨HS.out.set 1 _ ?_⟩⟩, by decide⟩
        have hov : overL lk 8 = max 0 ((lk.length : Int) - 8) := rfl
        (try rw [HW.out] at *)
        simp [scoresL, hrd, hov]
        try omega
    · obtain ⟨ad, Ak, ck, e1, hy, _, _⟩ := at_lvl HR0.out 2 (by have := H4.out; omega)
      subst e1
      obtain ⟨lk, hlk⟩ : ∃ lk, l0_0[2]'(by have := H4.out; omega) = lk := ⟨_, rfl⟩
      have hrd : rd_L3 l0_0 2 = lk := by rw [← hlk]; simp [rd_L3, List.getD_eq_getElem?_getD, List.getElem?_eq_getElem (show 2 < l0_0.length by have := H4.out; omega)]
      have hl9 : lk.length ≤ 100000 := by rw [← hlk]; exact HLL.out _ (List.getElem_mem _)
      rw [hlk] at hy
      replace hy : wr.cell? ⟨ad.block, ad.off + 2, none⟩ = some (.slice Ak lk.length ck) := cl_ HS.out.bel hy
      have hs : wr.cell? ⟨go, 2, none⟩ = some (.int .i64 0) := (blk_cell HS.out.bo 2).trans rfl
      have hf := blk_frozen HS.out.bo 2
      have HW := Aside0.mk (show wrap64 ((lk.length : Int) - 16) = (lk.length : Int) - 16 from w64 (by omega) (by omega))
      go_wp2_with fail
      all_goals
        refine ⟨⟨3, rfl, by decide, by decide, ⟨HS.out.set 2 _ ?_⟩⟩, by decide⟩
        have hov : overL lk 16 = max 0 ((lk.length : Int) - 16) := rfl
        (try rw [HW.out] at *)
        simp [scoresL, hrd, hov]
        try omega
    · have hq0 : wr.cell? ⟨go, 0, none⟩ = some (.int .i64 (overL (rd_L3 l0_0 0) 3)) := (blk_cell HS.out.bo 0).trans rfl
      have hq1 : wr.cell? ⟨go, 1, none⟩ = some (.int .i64 (overL (rd_L3 l0_0 1) 8)) := (blk_cell HS.out.bo 1).trans rfl
      have hq2 : wr.cell? ⟨go, 2, none⟩ = some (.int .i64 (overL (rd_L3 l0_0 2) 16)) := (blk_cell HS.out.bo 2).trans rfl
      have hq3 : wr.cell? ⟨go, 3, none⟩ = some (.int .i64 0) := (blk_cell HS.out.bo 3).trans rfl
      have hr0 : wr.cell? ⟨gr, 0, none⟩ = some (.int .i64 0) := (blk_cell HS.out.br 0).trans rfl
      have hr1 : wr.cell? ⟨gr, 1, none⟩ = some (.int .i64 0) := (blk_cell HS.out.br 1).trans rfl
      have hr2 : wr.cell? ⟨gr, 2, none⟩ = some (.int .i64 0) := (blk_cell HS.out.br 2).trans rfl
      have hr3 : wr.cell? ⟨gr, 3, none⟩ = some (.int .i64 0) := (blk_cell HS.out.br 3).trans rfl
      have hf0 := blk_frozen HS.out.br 0
      have hf1 := blk_frozen HS.out.br 1
      have hf2 := blk_frozen HS.out.br 2
      have hf3 := blk_frozen HS.out.br 3
      go_wp2_with fail
      have hE := blk_put (i := 3) (blk_put (i := 2) (blk_put (i := 1) (blk_put (i := 0) HS.out.br (.int .i64 (overL (rd_L3 l0_0 0) 3)) rfl) (.int .i64 (overL (rd_L3 l0_0 1) 8)) rfl) (.int .i64 (overL (rd_L3 l0_0 2) 16)) rfl) (.int .i64 0) rfl
      have hb9 : Below w.heap.size w _ := below_set (g := gr) (j := 3) (below_set (g := gr) (j := 2) (below_set (g := gr) (j := 1) (below_set (g := gr) (j := 0) HS.out.bel HS.out.lr (v := .int .i64 (overL (rd_L3 l0_0 0) 3))) HS.out.lr (v := .int .i64 (overL (rd_L3 l0_0 1) 8))) HS.out.lr (v := .int .i64 (overL (rd_L3 l0_0 2) 16))) HS.out.lr (v := .int .i64 0)
      refine bodyPost_ret (results_cell_row rfl _ _ gr 57 _ (0, 0) _ rfl hE Try.underlying57 rfl (by kernel_rfl)) rfl ?_
      exact ⟨rfl, hb9⟩
/-- By how much one level is too full. -/
def scoreS (l : List (List S28)) (x : Int) : Int := if x = 0 then overL (rd_L3 l 0) 3 else if x = 1 then overL (rd_L3 l 1) 8 else if x = 2 then overL (rd_L3 l 2) 16 else 0
theorem score_index (l : List (List S28)) (x : Int) (h0 : 0 ≤ x) (h4 : x < 4) (W : World) : (Instr.index 57 (.agg (scoresL l 3)) (.int .i64 x)).run Try.prog W = .ok (.int .i64 (scoreS l x)) W := by
  have hx : x = 0 ∨ x = 1 ∨ x = 2 ∨ x = 3 := by omega
  have e0 : (Instr.index 57 (.agg (scoresL l 3)) (.int .i64 0)).run Try.prog W = .ok (.int .i64 (scoreS l 0)) W := by kernel_rfl
  have e1 : (Instr.index 57 (.agg (scoresL l 3)) (.int .i64 1)).run Try.prog W = .ok (.int .i64 (scoreS l 1)) W := by kernel_rfl
  have e2 : (Instr.index 57 (.agg (scoresL l 3)) (.int .i64 2)).run Try.prog W = .ok (.int .i64 (scoreS l 2)) W := by kernel_rfl
  have e3 : (Instr.index 57 (.agg (scoresL l 3)) (.int .i64 3)).run Try.prog W = .ok (.int .i64 (scoreS l 3)) W := by kernel_rfl
  rcases hx with rfl | rfl | rfl | rfl
  · exact e0
  · exact e1
  · exact e2
  · exact e3
theorem check_zero {k : Nat} {l : List (List S28)} {n q : Int} {g : ByteArray} (h : version_Check.f k l n q g = some 0) : l.length = 4 ∧ l.flatten.length ≤ 100000 := by
  unfold version_Check.f at h
  obtain ⟨t, _, h⟩ := Option.bind_eq_some_iff.mp h
  split at h
  · cases h
  · obtain ⟨u, hu, h⟩ := Option.bind_eq_some_iff.mp h
    unfold version_may.f at hu
    split at hu
    · rename_i hf
      refine ⟨?_, hf⟩
      split at h
      · rename_i hu2
        injection hu with hu
        rw [hu2] at hu
        unfold mayV headS at hu
        simp only [Bool.and_eq_true, decide_eq_true_eq] at hu
        exact hu.1.1
      · cases h
    · cases hu
/-- Is a level too full? -/
def needS (l : List (List S28)) : Bool := decide (scoreS l 0 ≠ 0) || (decide (scoreS l 1 ≠ 0) || decide (scoreS l 2 ≠ 0))
theorem need_neq (l : List (List S28)) (W : World) : (binOp .neq 57 (.agg (scoresL l 3)) (.agg #[.int .i64 0, .int .i64 0, .int .i64 0, .int .i64 0])).run Try.prog W = .ok (.bool (needS l)) W := by
  have hp : ∀ (xs : Array Value) (off : Nat) (v : Value), xs[off]? = some v → (part 3 xs off).run Try.prog W = .ok v W := fun xs off v h => run_part_plain W (by kernel_rfl) h
  have hi : ∀ x y : Int, (Op.equalIn 9999 3 (.int .i64 x) (.int .i64 y)).run Try.prog W = .ok (x == y) W := fun x y => run_equalIn_int W 9998 3 .i64 .i64 x y Try.underlying3
  have e4 : ∀ a b c : Int, (Op.equal 57 (.agg #[.int .i64 a, .int .i64 b, .int .i64 c, .int .i64 0]) (.agg #[.int .i64 0, .int .i64 0, .int .i64 0, .int .i64 0])).run Try.prog W = .ok ((a == 0) && ((b == 0) && (c == 0))) W := by
    intro a b c
    show (Op.equalIn (9999 + 1) 57 _ _).run Try.prog W = _
    obtain ⟨i, hinf⟩ := Option.isSome_iff_exists.mp (show (Try.prog.info? 3).isSome = true by kernel_rfl)
    rw [run_equalIn_array W 9999 _ _ Try.underlying57 hinf, show Try.prog.cellsOf 3 = 1 by kernel_rfl, show List.range 4 = [0, 1, 2, 3] from rfl]
    simp only [Op.eqItems, Sem.run_bind]
    rw [hp _ (0 * 1) (.int .i64 a) rfl]
    simp only [Result.andThen_ok]
    rw [hp _ (0 * 1) (.int .i64 0) rfl]
    simp only [Result.andThen_ok, hi]
    cases (a == 0)
    · simp
    simp only [Bool.not_true, Bool.false_eq_true, if_false, Sem.run_bind]
    rw [hp _ (1 * 1) (.int .i64 b) rfl]
    simp only [Result.andThen_ok]
    rw [hp _ (1 * 1) (.int .i64 0) rfl]
    simp only [Result.andThen_ok, hi]
    cases (b == 0)
    · simp
    simp only [Bool.not_true, Bool.false_eq_true, if_false, Sem.run_bind]
    rw [hp _ (2 * 1) (.int .i64 c) rfl]
    simp only [Result.andThen_ok]
    rw [hp _ (2 * 1) (.int .i64 0) rfl]
    simp only [Result.andThen_ok, hi]
    cases (c == 0)
    · simp
    simp only [Bool.not_true, Bool.false_eq_true, if_false, Sem.run_bind]
    rw [hp _ (3 * 1) (.int .i64 0) rfl]
    simp only [Result.andThen_ok]
    rw [hp _ (3 * 1) (.int .i64 0) rfl]
    simp only [Result.andThen_ok, hi]
    simp
  have he := e4 (overL (rd_L3 l 0) 3) (overL (rd_L3 l 1) 8) (overL (rd_L3 l 2) 16)
  replace he : (Op.equal 57 (.agg (scoresL l 3)) (.agg #[.int .i64 0, .int .i64 0, .int .i64 0, .int .i64 0])).run Try.prog W = .ok ((scoreS l 0 == 0) && ((scoreS l 1 == 0) && (scoreS l 2 == 0))) W := he
  have hn : needS l = !((scoreS l 0 == 0) && ((scoreS l 1 == 0) && (scoreS l 2 == 0))) := by
    unfold needS
    by_cases a : scoreS l 0 = 0 <;> by_cases b : scoreS l 1 = 0 <;> by_cases c : scoreS l 2 = 0 <;> simp [a, b, c]
  rw [hn]
  simp only [binOp, Sem.run_bind, he, Result.andThen_ok]
  rfl
/-- The scores, each by its name. -/
theorem scores_calls2 (A0_0 : Option Addr) (c0_0 : Nat) (l0_0 : List (List S28)) (a0_1 : Int) (a0_2 : Int) (a0_3 : ByteArray) (s0 s1 s2 : Int) (E0 : scoreS l0_0 0 = s0) (E1 : scoreS l0_0 1 = s1) (E2 : scoreS l0_0 2 = s2) (h4 : l0_0.length = 4) (hb4 : l0_0.flatten.length ≤ 100000) (w : World) (hr0_0 : Kd.C (Kd.slice 28 k28) w A0_0 l0_0.length l0_0) :
    Calls Try.prog 23 #[.agg #[.slice A0_0 l0_0.length c0_0, .int .i64 a0_1, .int .i64 a0_2, .string a0_3]] w fun e w' => e = .returned (.agg #[.int .i64 s0, .int .i64 s1, .int .i64 s2, .int .i64 0]) ∧ Below w.heap.size w w' := by
  subst E0; subst E1; subst E2
  exact scores_calls A0_0 c0_0 l0_0 a0_1 a0_2 a0_3 w hr0_0 h4 hb4
theorem score_index2 (l : List (List S28)) (s0 s1 s2 x : Int) (E0 : scoreS l 0 = s0) (E1 : scoreS l 1 = s1) (E2 : scoreS l 2 = s2) (h0 : 0 ≤ x) (h4 : x < 4) (W : World) : (Instr.index 57 (.agg #[.int .i64 s0, .int .i64 s1, .int .i64 s2, .int .i64 0]) (.int .i64 x)).run Try.prog W = .ok (.int .i64 (scoreS l x)) W := by
  subst E0; subst E1; subst E2
  exact score_index l x h0 h4 W
/-- The fullest of the first levels. -/
def lvF (l : List (List S28)) : Nat → Int
  | 0 => 0
  | n + 1 => if scoreS l (lvF l n) < scoreS l (n : Int) then (n : Int) else lvF l n
theorem lvF_range (l : List (List S28)) : ∀ n, 0 ≤ lvF l n ∧ lvF l n ≤ (n : Int) - (if n = 0 then 0 else 1)
  | 0 => ⟨by simp [lvF], by simp [lvF]⟩
  | n + 1 => by
    have h := lvF_range l n
    rw [if_neg (by omega)]
    unfold lvF
    split at h <;> split <;> omega
theorem score_cell (l : List (List S28)) (s0 s1 s2 x : Int) (E0 : scoreS l 0 = s0) (E1 : scoreS l 1 = s1) (E2 : scoreS l 2 = s2) (h0 : 0 ≤ x) (h4 : x < 4) {W : World} {g t : Nat} (hb : W.heap[g]? = some (.cells #[.int .i64 s0, .int .i64 s1, .int .i64 s2, .int .i64 0] t (0, 0))) : W.cell? ⟨g, x.toNat, none⟩ = some (.int .i64 (scoreS l x)) := by
  subst E0; subst E1; subst E2
  have hx : x = 0 ∨ x = 1 ∨ x = 2 ∨ x = 3 := by omega
  rcases hx with rfl | rfl | rfl | rfl
  · exact (blk_cell hb 0).trans rfl
  · exact (blk_cell hb 1).trans rfl
  · exact (blk_cell hb 2).trans rfl
  · exact (blk_cell hb 3).trans rfl
/-- What three blocks hold in a round: the version, the answer's place, the scores. -/
structure PSt (w : World) (gv gr go : Nat) (cv co : Array Value) (W : World) : Prop where
  bv : W.heap[gv]? = some (.cells cv 24 (0, 0))
  br : W.heap[gr]? = some (.cells #[.int .i64 0, .slice none 0 0, .slice none 0 0] 31 (0, 0))
  bo : W.heap[go]? = some (.cells co 57 (0, 0))
  bel : Below w.heap.size w W
end Go.Proofs.Ytgeeignipammhaa.R

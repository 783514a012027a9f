/- What is compacted next, as the program and the document tell it, in plain words. -/
import Derived.Test.YtgeeignipammhaaRx6
import Derived.Test.YtgeeignipammhaaRx7
import Derived.Test.YtgeeignipammhaaRx5
import Derived.Test.YtgeeignipammhaaRx4
import Derived.Test.YtgeeignipammhaaRx11
import Derived.Test.YtgeeignipammhaaRx12
import Derived.Test.YtgeeignipammhaaRx13
import Derived.Test.YtgeeignipammhaaRx15
import Derived.Test.YtgeeignipammhaaRP1
import Derived.Test.YtgeeignipammhaaROp
namespace Go.Proofs.Ytgeeignipammhaa.R
open Go.RowKit Go.Proofs.YtgeeignipammhaaW.PrintWords Go.Proofs.YtgeeignipammhaaW.PrintLast Go.Proofs.YtgeeignipammhaaW.PrintMore Go.Proofs.Ytgeeignipammhaa.Plain Go.Proofs.Ytgeeignipammhaa.Opens Go.Proofs.Ytgeeignipammhaa.Mx
set_option linter.unusedVariables false
set_option linter.unusedSimpArgs false
/-! ### by how much levels are too full -/
theorem scoreS_nonneg (l : List (List MetaT)) (x : Int) : 0 ≤ scoreS l x := by
  unfold scoreS overL
  split
  · omega
  · split
    · omega
    · split <;> omega
theorem Check_chk (l : List (List MetaT)) (next seq : Int) (log : ByteArray) (hl : l.length ≤ 20) (hm : ∀ x ∈ l, x.length ≤ 100) : Ev (fun k => version_Check.f k l next seq log) (chkS l next seq log) := Check_ev l next seq log hl hm
theorem rd_le (l : List (List MetaT)) (hm : ∀ x ∈ l, x.length ≤ 100) (i : Nat) (hi : i < l.length) : (rd_L3 l (i : Int)).length ≤ 100 := by rw [rd_lvl l i hi]; exact hm _ (List.getElem_mem hi)
theorem Over_f (l : List (List MetaT)) (next seq : Int) (log : ByteArray) (h4 : l.length = 4) (hm : ∀ x ∈ l, x.length ≤ 100) (a : Int) (h0 : 0 ≤ a) (ha : a < 4) : millhandref18_Over.f l next seq log a = some (scoreS l a) := by
  have g0 : (rd_L3 l 0).length ≤ 100 := rd_le l hm 0 (by omega)
  have g1 : (rd_L3 l 1).length ≤ 100 := rd_le l hm 1 (by omega)
  have g2 : (rd_L3 l 2).length ≤ 100 := rd_le l hm 2 (by omega)
  have g3 : (rd_L3 l 3).length ≤ 100 := rd_le l hm 3 (by omega)
  have s0 : scoreS l 0 = max 0 (((rd_L3 l 0).length : Int) - 3) := by simp [scoreS, overL]
  have s1 : scoreS l 1 = max 0 (((rd_L3 l 1).length : Int) - 8) := by simp [scoreS, overL]
  have s2 : scoreS l 2 = max 0 (((rd_L3 l 2).length : Int) - 16) := by simp [scoreS, overL]
  have s3 : scoreS l 3 = 0 := by simp [scoreS, overL]
  have hx : a = 0 ∨ a = 1 ∨ a = 2 ∨ a = 3 := by omega
  unfold millhandref18_Over.f millhandref18_holds.f
  rw [if_pos h0, if_pos (by omega)]
  rcases hx with rfl | rfl | rfl | rfl
  · rw [if_pos rfl, Option.bind_some, w64 (by omega) (by omega), s0, if_neg (show ¬ (0 : Int) = 3 by decide)]
    split <;> (congr 1; omega)
  · rw [if_neg (show ¬ (1 : Int) = 0 by decide), if_pos rfl, Option.bind_some, w64 (by omega) (by omega), s1, if_neg (show ¬ (1 : Int) = 3 by decide)]
    split <;> (congr 1; omega)
  · rw [if_neg (show ¬ (2 : Int) = 0 by decide), if_neg (show ¬ (2 : Int) = 1 by decide), Option.bind_some, w64 (by omega) (by omega), s2, if_neg (show ¬ (2 : Int) = 3 by decide)]
    split <;> (congr 1; omega)
  · rw [if_neg (show ¬ (3 : Int) = 0 by decide), if_neg (show ¬ (3 : Int) = 1 by decide), Option.bind_some, s3, if_pos rfl]
    split <;> rfl
section
variable (l : List (List MetaT)) (next seq : Int) (log : ByteArray) (hl : l.length ≤ 20) (hm : ∀ x ∈ l, x.length ≤ 100)
include hl hm
/-- What both tell of a level's score. -/
def scoreV (l : List (List MetaT)) (next seq : Int) (log : ByteArray) (a : Int) : Int × Int := if chkS l next seq log = 0 then (if a < 0 then (0, 2) else if a ≥ 4 then (0, 2) else (scoreS l a, 0)) else (0, chkS l next seq log)
theorem Score_ev (a : Int) : Ev (fun k => pick_Score.f k l next seq log a) (scoreV l next seq log a) := by
  unfold pick_Score.f scoreV
  exact Ev.bind (Check_chk l next seq log hl hm) (ev_ite (fun _ => ev_ite (fun _ => Ev.now _) (fun _ => ev_ite (fun _ => Ev.now _) (fun _ => Ev.now _))) (fun _ => Ev.now _))
theorem refScore_ev (a : Int) : Ev (fun k => millhandref18_Score.f k l next seq log a) (scoreV l next seq log a) := by
  unfold millhandref18_Score.f scoreV
  refine Ev.bind (refCheck_ev l next seq log hl hm) (ev_ite (fun h => ev_ite (fun _ => Ev.now _) (fun h1 => ev_ite (fun _ => Ev.now _) (fun h2 => ?_))) (fun _ => Ev.now _))
  rw [Over_f l next seq log (mayV_len (chkS_zero h).2) hm a (by omega) (by omega)]
  exact Ev.now _
/-- The fullest level, if one is too full. -/
def fullV (l : List (List MetaT)) : Int := if 0 < scoreS l (lvF l 4) then lvF l 4 else -1
theorem full_l0 (h4 : l.length = 4) : ∀ (d n : Nat), n + d = 4 → 1 ≤ n → Ev (fun k => millhandref18_fullest.l0 k (if 0 < scoreS l (lvF l n) then lvF l n else -1) (scoreS l (lvF l n)) (n : Int) l next seq log) (fullV l)
  | 0, n, h, h1 => by
    have _ := hl
    obtain rfl : n = 4 := by omega
    exact Ev.step (fun _ => millhandref18_fullest.l0.eq_2 ..) (ev_neg (by omega) (Ev.now _))
  | d + 1, n, h, h1 => by
    have ih := full_l0 h4 d (n + 1) (by omega) (by omega)
    refine Ev.step (fun _ => millhandref18_fullest.l0.eq_2 ..) (ev_pos (by omega) ?_)
    rw [Over_f l next seq log h4 hm (n : Int) (by omega) (by omega), w64 (by omega) (by omega)]
    refine Ev.bind (Ev.now _) ?_
    by_cases hc : scoreS l (lvF l n) < scoreS l (n : Int)
    · have e : lvF l (n + 1) = (n : Int) := by show (if scoreS l (lvF l n) < scoreS l (n : Int) then (n : Int) else lvF l n) = _; rw [if_pos hc]
      have hp := scoreS_nonneg l (lvF l n)
      rw [e, if_pos (by omega)] at ih
      exact ev_pos hc (Ev.bind (Ev.now _) ih)
    · have e : lvF l (n + 1) = lvF l n := by show (if scoreS l (lvF l n) < scoreS l (n : Int) then (n : Int) else lvF l n) = _; rw [if_neg hc]
      rw [e] at ih
      exact ev_neg hc ih
theorem full_ev (h4 : l.length = 4) : Ev (fun k => millhandref18_fullest.f k l next seq log) (fullV l) := by
  unfold millhandref18_fullest.f
  have h1 := full_l0 l next seq log hl hm h4 3 1 (by omega) (by omega)
  have e : lvF l 1 = 0 := by show (if scoreS l 0 < scoreS l ((0 : Nat) : Int) then ((0 : Nat) : Int) else 0) = 0; split <;> rfl
  rw [e] at h1
  refine Ev.step (fun _ => millhandref18_fullest.l0.eq_2 ..) (ev_pos (by omega) ?_)
  rw [Over_f l next seq log h4 hm 0 (by omega) (by omega), w64 (by omega) (by omega)]
  refine Ev.bind (Ev.now _) ?_
  have hp := scoreS_nonneg l 0
  by_cases hc : 0 < scoreS l 0
  · rw [if_pos hc] at h1
    exact ev_pos hc (Ev.bind (Ev.now _) h1)
  · rw [if_neg hc, show scoreS l 0 = 0 by omega] at h1
    exact ev_neg hc h1
theorem lvF_max : ∀ n : Nat, ∀ i : Nat, i < n → scoreS l (i : Int) ≤ scoreS l (lvF l n)
  | 0, i, h => by
    have _ := hl
    have _ := hm
    omega
  | n + 1, i, h => by
    show _ ≤ scoreS l (if scoreS l (lvF l n) < scoreS l (n : Int) then (n : Int) else lvF l n)
    by_cases hi : i = n
    · subst hi; split <;> omega
    · have := lvF_max n i (by omega)
      split <;> omega
theorem need_full : needS l = decide (fullV l ≥ 0) := by
  have g0 := lvF_max l hl hm 4 0 (by omega)
  have g1 := lvF_max l hl hm 4 1 (by omega)
  have g2 := lvF_max l hl hm 4 2 (by omega)
  have hr := (lvF_range l 4).1
  have n0 := scoreS_nonneg l 0
  have n1 := scoreS_nonneg l 1
  have n2 := scoreS_nonneg l 2
  unfold needS fullV
  by_cases hp : 0 < scoreS l (lvF l 4)
  · rw [if_pos hp, decide_eq_true hr]
    have hx : lvF l 4 = 0 ∨ lvF l 4 = 1 ∨ lvF l 4 = 2 ∨ lvF l 4 = 3 := by have := (lvF_range l 4).2; simp at this; omega
    rcases hx with e | e | e | e
    · rw [e] at hp; rw [decide_eq_true (show scoreS l 0 ≠ 0 by omega)]; rfl
    · rw [e] at hp; rw [decide_eq_true (show scoreS l 1 ≠ 0 by omega)]; simp
    · rw [e] at hp; rw [decide_eq_true (show scoreS l 2 ≠ 0 by omega)]; simp
    · rw [e] at hp; simp [scoreS] at hp
  · rw [if_neg hp]
    have e0 : scoreS l 0 = 0 := by simp at g0; omega
    have e1 : scoreS l 1 = 0 := by simp at g1; omega
    have e2 : scoreS l 2 = 0 := by simp at g2; omega
    rw [e0, e1, e2]
    rfl
def needV (l : List (List MetaT)) (next seq : Int) (log : ByteArray) : Bool × Int := if chkS l next seq log = 0 then (needS l, 0) else (false, chkS l next seq log)
theorem Need_ev : Ev (fun k => pick_Need.f k l next seq log) (needV l next seq log) := by
  unfold pick_Need.f needV
  exact Ev.bind (Check_chk l next seq log hl hm) (ev_ite (fun _ => Ev.now _) (fun _ => Ev.now _))
theorem refNeed_ev : Ev (fun k => millhandref18_Need.f k l next seq log) (needV l next seq log) := by
  unfold millhandref18_Need.f needV
  refine Ev.bind (refCheck_ev l next seq log hl hm) (ev_ite (fun h => ?_) (fun _ => Ev.now _))
  rw [need_full l hl hm]
  exact Ev.bind (full_ev l next seq log hl hm (mayV_len (chkS_zero h).2)) (Ev.now _)
end
/-! ### what is compacted next -/
def lowF (lo : ByteArray) (xs : List MetaT) : ByteArray := xs.foldl (fun a m => mnS a m.f3) lo
def highF (hi : ByteArray) (xs : List MetaT) : ByteArray := xs.foldl (fun a m => mxS a m.f4) hi
theorem mnS_self (x : ByteArray) : mnS x x = x := by unfold mnS; split <;> rfl
theorem mxS_self (x : ByteArray) : mxS x x = x := by unfold mxS; split <;> rfl
theorem lowF_head (U : List MetaT) (hp : 0 < U.length) : lowF U[0].f3 U = lowF U[0].f3 (U.drop 1) := by
  cases U with
  | nil => simp at hp
  | cons u V =>
    show lowF (mnS u.f3 u.f3) V = lowF u.f3 V
    rw [mnS_self]
theorem highF_head (U : List MetaT) (hp : 0 < U.length) : highF U[0].f4 U = highF U[0].f4 (U.drop 1) := by
  cases U with
  | nil => simp at hp
  | cons u V =>
    show highF (mxS u.f4 u.f4) V = highF u.f4 V
    rw [mxS_self]
section
variable (l : List (List MetaT)) (next seq : Int) (log : ByteArray) (hl : l.length ≤ 20) (hm : ∀ x ∈ l, x.length ≤ 100)
include hl hm
theorem Overlap_ok (hc : chkS l next seq log = 0) (a : Nat) (ha : a < l.length) (lo hi : ByteArray) (h7 : textS 64 lo = true) (h8 : textS 64 hi = true) : Ev (fun k => version_Overlap.f k l next seq log (a : Int) lo hi) (l[a].filter (meets lo hi), 0) := by
  have h4 := mayV_len (chkS_zero hc).2
  have hc2 := Check_chk l next seq log hl hm
  rw [hc] at hc2
  have hw1 : Ev (fun _ => version_within.f lo 64) true := by rw [within_f, h7]; exact Ev.now _
  have hw2 : Ev (fun _ => version_within.f hi 64) true := by rw [within_f, h8]; exact Ev.now _
  unfold version_Overlap.f
  refine Ev.bind hc2 (ev_pos rfl (ev_neg (by omega) (Ev.step (fun _ => version_Overlap.j0.eq_2 ..) (ev_neg (by simp; omega) (Ev.bind hw1 (ev_pos rfl (Ev.bind hw2 (ev_pos rfl (ev_pos (by omega) (ev_pos (by omega) ?_))))))))))
  rw [rd_lvl l a ha]
  have hx := hm l[a] (List.getElem_mem ha)
  have := Ov_l0 lo hi l[a] (by omega) l[a].length 0 [] (by omega) (by simp; omega)
  simpa using this
/-- What is picked of a level. -/
def pickV (l : List (List MetaT)) (a : Nat) (U : List MetaT) : List MetaT := ((l.getD (a + 1) []).filter (meets (lowF (U.getD 0 z28).f3 U) (highF (U.getD 0 z28).f4 U)))
theorem getD_lvl (a : Nat) (ha : a < l.length) : l.getD a [] = l[a] := by
  have _ := hl
  have _ := hm
  rw [List.getD_eq_getElem?_getD, List.getElem?_eq_getElem ha]; rfl
theorem Pick_l0 (hc : chkS l next seq log = 0) (a : Nat) (ha : a + 1 < l.length) (U : List MetaT) (hU : U.length ≤ 100) (hk : ∀ m ∈ U, textS 64 m.f3 = true ∧ textS 64 m.f4 = true) : ∀ (d i : Nat) (lo hi : ByteArray), i + d = U.length → textS 64 lo = true → textS 64 hi = true →
    Ev (fun k => pick_Pick.l0 k (a : Int) lo hi U (U.length : Int) (i : Int) l next seq log (a : Int) U) ((a : Int), U, l[a + 1].filter (meets (lowF lo (U.drop i)) (highF hi (U.drop i))), 0)
  | 0, i, lo, hi, h, t1, t2 => by
    refine Ev.step (fun _ => pick_Pick.l0.eq_2 ..) (ev_neg (by omega) ?_)
    rw [show wrap64 ((a : Int) + 1) = ((a + 1 : Nat) : Int) by rw [w64 (by omega) (by omega)]; omega, List.drop_of_length_le (by omega)]
    exact Ev.bind (Overlap_ok l next seq log hl hm hc (a + 1) ha lo hi t1 t2) (Ev.now _)
  | d + 1, i, lo, hi, h, t1, t2 => by
    have hi2 : i < U.length := by omega
    have hx := hk U[i] (List.getElem_mem hi2)
    refine Ev.step (fun _ => pick_Pick.l0.eq_2 ..) (ev_pos (by omega) (ev_pos (by omega) (ev_pos (by omega) ?_)))
    rw [rd_meta U i hi2, w64 (by omega) (by omega), List.drop_eq_getElem_cons hi2]
    refine Pick_l0 hc a ha U hU hk d (i + 1) _ _ (by omega) ?_ ?_
    · unfold mnS; split
      · exact hx.1
      · exact t1
    · unfold mxS; split
      · exact hx.2
      · exact t2
theorem Pick_j0 (hc : chkS l next seq log = 0) (a : Nat) (ha : a + 1 < l.length) (U : List MetaT) (hU : U.length ≤ 100) (hk : ∀ m ∈ U, textS 64 m.f3 = true ∧ textS 64 m.f4 = true) (hp : 0 < U.length) :
    Ev (fun k => pick_Pick.j0 k (a : Int) l next seq log (a : Int) U) ((a : Int), U, pickV l a U, 0) := by
  have h0 := hk U[0] (List.getElem_mem hp)
  have := Pick_l0 l next seq log hl hm hc a ha U hU hk U.length 0 U[0].f3 U[0].f4 (by omega) h0.1 h0.2
  refine Ev.step (fun _ => pick_Pick.j0.eq_2 ..) (ev_pos (by omega) ?_)
  have e : rd_T28 U 0 = U[0] := rd_meta U 0 hp
  rw [e]
  refine ev_eq this ?_
  unfold pickV
  rw [getD_lvl l hl hm (a + 1) ha, List.drop_zero, List.getD_eq_getElem?_getD, List.getElem?_eq_getElem hp]
  rfl
theorem rPick_l1 (a : Nat) (ha : a + 1 < l.length) (U : List MetaT) (hU : U.length ≤ 100) : ∀ (d i : Nat) (lo hi : ByteArray), i + d = U.length →
    Ev (fun k => millhandref18_Pick.l1 k (a : Int) lo hi (i : Int) l next seq log (a : Int) U) ((a : Int), U, l[a + 1].filter (meets (lowF lo (U.drop i)) (highF hi (U.drop i))), 0)
  | 0, i, lo, hi, h => by
    have hx := hm l[a + 1] (List.getElem_mem ha)
    refine Ev.step (fun _ => millhandref18_Pick.l1.eq_2 ..) (ev_neg (by omega) ?_)
    rw [show wrap64 ((a : Int) + 1) = ((a + 1 : Nat) : Int) by rw [w64 (by omega) (by omega)]; omega, List.drop_of_length_le (by omega), rd_lvl l (a + 1) ha]
    exact ev_pos (by omega) (ev_pos (by omega) (Ev.bind (Meet_ev l[a + 1] (by omega) lo hi) (Ev.now _)))
  | d + 1, i, lo, hi, h => by
    have hi2 : i < U.length := by omega
    refine Ev.step (fun _ => millhandref18_Pick.l1.eq_2 ..) (ev_pos (by omega) (ev_pos (by omega) ?_))
    rw [rd_meta U i hi2, w64 (by omega) (by omega), List.drop_eq_getElem_cons hi2]
    have ih := fun lo hi => rPick_l1 a ha U hU d (i + 1) lo hi (by omega)
    have eL : ∀ x xs, lowF lo (x :: xs) = lowF (mnS lo x.f3) xs := fun _ _ => rfl
    have eH : ∀ x xs, highF hi (x :: xs) = highF (mxS hi x.f4) xs := fun _ _ => rfl
    rw [eL, eH]
    by_cases h1 : Op.bytesLess U[i].f3.toList lo.toList = true <;> by_cases h2 : Op.bytesLess hi.toList U[i].f4.toList = true
    · rw [show mnS lo U[i].f3 = U[i].f3 by unfold mnS; rw [if_pos h1], show mxS hi U[i].f4 = U[i].f4 by unfold mxS; rw [if_pos h2]]
      exact ev_pos h1 (ev_pos h2 (ih _ _))
    · rw [show mnS lo U[i].f3 = U[i].f3 by unfold mnS; rw [if_pos h1], show mxS hi U[i].f4 = hi by unfold mxS; rw [if_neg h2]]
      exact ev_pos h1 (ev_neg h2 (ih _ _))
    · rw [show mnS lo U[i].f3 = lo by unfold mnS; rw [if_neg h1], show mxS hi U[i].f4 = U[i].f4 by unfold mxS; rw [if_pos h2]]
      exact ev_neg h1 (ev_pos h2 (ih _ _))
    · rw [show mnS lo U[i].f3 = lo by unfold mnS; rw [if_neg h1], show mxS hi U[i].f4 = hi by unfold mxS; rw [if_neg h2]]
      exact ev_neg h1 (ev_neg h2 (ih _ _))
theorem rPick_j1 (a : Nat) (ha : a + 1 < l.length) (U : List MetaT) (hU : U.length ≤ 100) (hp : 0 < U.length) :
    Ev (fun k => millhandref18_Pick.j1 k (a : Int) l next seq log (a : Int) U) ((a : Int), U, pickV l a U, 0) := by
  have := rPick_l1 l next seq log hl hm a ha U hU (U.length - 1) 1 U[0].f3 U[0].f4 (by omega)
  refine Ev.step (fun _ => millhandref18_Pick.j1.eq_2 ..) (ev_pos (by omega) ?_)
  have e : rd_T28 U 0 = U[0] := rd_meta U 0 hp
  rw [e]
  refine ev_eq this ?_
  unfold pickV
  rw [getD_lvl l hl hm (a + 1) ha, List.getD_eq_getElem?_getD, List.getElem?_eq_getElem hp]
  have eL := lowF_head U hp
  have eH := highF_head U hp
  show _ = ((a : Int), U, l[a + 1].filter (meets (lowF U[0].f3 U) (highF U[0].f4 U)), 0)
  rw [eL, eH]
theorem rPick_l0 (ha : 0 + 1 < l.length) (hp : 0 < l[0].length) : ∀ (d i : Nat), i + d = l[0].length →
    Ev (fun k => millhandref18_Pick.l0 k 0 (i : Int) l next seq log 0 (l[0].take i)) (0, l[0], pickV l 0 l[0], 0)
  | 0, i, h => by
    have hx := hm l[0] (List.getElem_mem (by omega))
    have hj := rPick_j1 l next seq log hl hm 0 ha l[0] hx hp
    have e := rd_lvl l 0 (by omega)
    refine Ev.step (fun _ => millhandref18_Pick.l0.eq_2 ..) (ev_pos (by omega) (ev_pos (by omega) (ev_neg (by have e2 := congrArg List.length e; simp at e2; omega) ?_)))
    rw [List.take_of_length_le (by omega)]
    exact hj
  | d + 1, i, h => by
    have hx := hm l[0] (List.getElem_mem (by omega))
    have hi : i < l[0].length := by omega
    have e : rd_L3 l 0 = l[0] := rd_lvl l 0 (by omega)
    have ih := rPick_l0 ha hp d (i + 1) (by omega)
    refine Ev.step (fun _ => millhandref18_Pick.l0.eq_2 ..) (ev_pos (by omega) (ev_pos (by omega) ?_))
    rw [e, rd_meta l[0] i hi, w64 (by omega) (by omega)]
    refine ev_pos (by omega) (ev_pos rfl (ev_pos (by omega) (ev_pos (by rw [List.length_take]; omega) ?_)))
    rw [List.take_succ_eq_append_getElem hi] at ih
    exact ih
theorem rPick_ln (a : Nat) (h0 : 0 < a) (ha : a + 1 < l.length) (hp : 0 < l[a].length) :
    Ev (fun k => millhandref18_Pick.l0 k (a : Int) 0 l next seq log (a : Int) []) ((a : Int), l[a].take 1, pickV l a (l[a].take 1), 0) := by
  have hx := hm l[a] (List.getElem_mem (by omega))
  have hj := rPick_j1 l next seq log hl hm a ha (l[a].take 1) (by rw [List.length_take]; omega) (by rw [List.length_take]; omega)
  have e : rd_L3 l (a : Int) = l[a] := rd_lvl l a (by omega)
  have e0 : rd_T28 l[a] 0 = l[a][0] := rd_meta l[a] 0 hp
  have et : l[a].take 1 = [l[a][0]] := by
    have := List.take_succ_eq_append_getElem hp
    simpa using this
  refine Ev.step (fun _ => millhandref18_Pick.l0.eq_2 ..) (ev_pos (by omega) (ev_pos (by omega) ?_))
  rw [e, e0, w64 (by omega) (by omega)]
  refine ev_pos (by omega) (ev_neg (by omega) (ev_pos rfl (ev_pos (by omega) (ev_pos (by decide) ?_))))
  refine Ev.step (fun _ => millhandref18_Pick.l0.eq_2 ..) (ev_pos (by omega) (ev_pos (by omega) ?_))
  rw [e, List.nil_append]
  show Ev (fun k => if (0 + 1 : Int) < (l[a].length : Int) then _ else _) _
  rw [← et]
  by_cases h1 : (0 + 1 : Int) < (l[a].length : Int)
  · exact ev_pos h1 (ev_neg (by omega) (ev_neg (by decide) hj))
  · exact ev_neg h1 hj
/-- What both tell. -/
def pickA (l : List (List MetaT)) (next seq : Int) (log : ByteArray) : Int × List MetaT × List MetaT × Int :=
  if chkS l next seq log = 0 then (if fullV l < 0 then (0, [], [], 6) else ((fullV l), (if fullV l = 0 then l.getD 0 [] else (l.getD (fullV l).toNat []).take 1), pickV l (fullV l).toNat (if fullV l = 0 then l.getD 0 [] else (l.getD (fullV l).toNat []).take 1), 0)) else (0, [], [], chkS l next seq log)
theorem full_lvl (hc : chkS l next seq log = 0) (hf : ¬ fullV l < 0) : ∃ a : Nat, fullV l = (a : Int) ∧ lvF l 4 = (a : Int) ∧ scoreS l (a : Int) ≠ 0 ∧ a + 1 < l.length ∧ ∀ h : a < l.length, 0 < l[a].length := by
  have _ := hl
  have _ := hm
  have h4 := mayV_len (chkS_zero hc).2
  have hr := lvF_range l 4
  by_cases hp : 0 < scoreS l (lvF l 4)
  rotate_left
  · unfold fullV at hf
    rw [if_neg hp] at hf
    exact absurd (by decide) hf
  have ef : fullV l = lvF l 4 := by unfold fullV; rw [if_pos hp]
  obtain ⟨a, he⟩ : ∃ a : Nat, lvF l 4 = (a : Int) := ⟨(lvF l 4).toNat, by omega⟩
  have ha4 : a ≤ 3 := by have := hr.2; rw [he] at this; simp at this; omega
  rw [he] at hp
  have ha3 : a ≠ 3 := by rintro rfl; simp [scoreS] at hp
  refine ⟨a, by rw [ef, he], he, by omega, by omega, fun h => ?_⟩
  have hg : rd_L3 l (a : Int) = l[a] := rd_lvl l a h
  have hx : a = 0 ∨ a = 1 ∨ a = 2 := by omega
  rcases hx with rfl | rfl | rfl
  · have e : rd_L3 l 0 = l[0] := hg
    simp [scoreS, overL, e] at hp; omega
  · have e : rd_L3 l 1 = l[1] := hg
    simp [scoreS, overL, e] at hp; omega
  · have e : rd_L3 l 2 = l[2] := hg
    simp [scoreS, overL, e] at hp; omega
theorem Pick_ev : Ev (fun k => pick_Pick.f k l next seq log) (pickA l next seq log) := by
  unfold pick_Pick.f pickA
  refine Ev.bind (Check_chk l next seq log hl hm) (ev_ite (fun hc => ?_) (fun _ => Ev.now _))
  refine Ev.bind (Ev.now _) (Ev.bind (Ev.now _) ?_)
  by_cases hf : fullV l < 0
  · rw [if_pos hf]
    have : scoreS l (lvF l 4) = 0 := by
      have h0 := scoreS_nonneg l (lvF l 4)
      have hr := (lvF_range l 4).1
      unfold fullV at hf
      split at hf <;> omega
    exact ev_pos this (Ev.now _)
  rw [if_neg hf]
  obtain ⟨a, e1, e2, e3, ha, hp⟩ := full_lvl l next seq log hl hm hc hf
  have hp := hp (by omega)
  have hx := hm l[a] (List.getElem_mem (by omega))
  have hk : ∀ m ∈ l[a], textS 64 m.f3 = true ∧ textS 64 m.f4 = true := fun m h => by
    have := tableS_keys (mayV_table (chkS_zero hc).2 (List.mem_flatten.mpr ⟨l[a], List.getElem_mem (by omega), h⟩))
    exact ⟨this.1, this.2.1⟩
  rw [e1, e2, rd_lvl l a (by omega), Int.toNat_natCast]
  have hcl : slices_Clone_api_Meta.f l[a] = some l[a] := by
    unfold slices_Clone_api_Meta.f
    rw [Option.bind_some, if_pos (by rw [List.length_nil]; omega), List.nil_append]
  refine ev_neg e3 (ev_pos (by omega) (ev_pos (by omega) ?_))
  rw [hcl]
  refine Ev.bind (Ev.now _) ?_
  by_cases h0 : a = 0
  · subst h0
    refine ev_neg (by decide) ?_
    rw [if_pos (by rfl), getD_lvl l hl hm 0 (by omega)]
    exact Pick_j0 l next seq log hl hm hc 0 ha l[0] hx hk hp
  · refine ev_pos (by omega) ?_
    rw [if_pos hp, if_neg (show ¬ (a : Int) = 0 by omega), getD_lvl l hl hm a (by omega)]
    refine Ev.bind (Ev.now _) ?_
    exact Pick_j0 l next seq log hl hm hc a ha (l[a].take 1) (by rw [List.length_take]; omega) (fun m h => hk m (List.mem_of_mem_take h)) (by rw [List.length_take]; omega)
theorem refPick_ev : Ev (fun k => millhandref18_Pick.f k l next seq log) (pickA l next seq log) := by
  unfold millhandref18_Pick.f pickA
  refine Ev.bind (refCheck_ev l next seq log hl hm) (ev_ite (fun hc => Ev.bind (full_ev l next seq log hl hm (mayV_len (chkS_zero hc).2)) (ev_ite (fun _ => Ev.now _) (fun hf => ?_))) (fun _ => Ev.now _))
  obtain ⟨a, e1, e2, e3, ha, hp⟩ := full_lvl l next seq log hl hm hc hf
  have hp := hp (by omega)
  rw [e1, Int.toNat_natCast]
  by_cases h0 : a = 0
  · subst h0
    rw [if_pos (by rfl), getD_lvl l hl hm 0 (by omega)]
    have := rPick_l0 l next seq log hl hm ha hp l[0].length 0 (by omega)
    rw [List.take_zero] at this
    exact this
  · rw [if_neg (by omega), getD_lvl l hl hm a (by omega)]
    exact rPick_ln l next seq log hl hm a (by omega) ha hp
theorem pickA_len : (pickA l next seq log).2.1.length ≤ 100 ∧ (pickA l next seq log).2.2.1.length ≤ 100 := by
  unfold pickA
  split
  · rename_i hc
    split
    · simp
    · rename_i hf
      obtain ⟨a, e1, e2, e3, ha, hp⟩ := full_lvl l next seq log hl hm hc hf
      have hx := hm l[a] (List.getElem_mem (by omega))
      have hy := hm l[a + 1] (List.getElem_mem (by omega))
      rw [e1, Int.toNat_natCast]
      refine ⟨?_, ?_⟩
      · show (if (a : Int) = 0 then l.getD 0 [] else (l.getD a []).take 1).length ≤ 100
        split
        · rename_i h0
          obtain rfl : a = 0 := by omega
          rw [getD_lvl l hl hm 0 (by omega)]
          exact hx
        · rw [List.length_take]; omega
      · show (pickV l a _).length ≤ 100
        unfold pickV
        rw [getD_lvl l hl hm (a + 1) ha]
        exact Nat.le_trans (List.length_filter_le _ _) hy
  · simp
end
/-! ### the law -/
section
variable (l : List (List MetaT)) (next seq : Int) (log : ByteArray) (hl : l.length ≤ 20) (hm : ∀ x ∈ l, x.length ≤ 100)
include hl hm
theorem Pt_l1 (lv : Int) (U : List MetaT) : ∀ (d i : Nat) (L : List MetaT), i + d = L.length → L.length ≤ 100 → Ev (fun k => millhandlaw18_PickTells.l1 k true (i : Int) l next seq log l next seq log lv U L) true
  | 0, i, L, h, hL => by
    refine Ev.step (fun _ => millhandlaw18_PickTells.l1.eq_2 ..) (ev_neg (by omega) (ev_pos rfl ?_))
    exact Ev.bind (Same_ev l next seq log hl hm) (Ev.now _)
  | d + 1, i, L, h, hL => by
    refine Ev.step (fun _ => millhandlaw18_PickTells.l1.eq_2 ..) (ev_pos (by omega) (ev_pos (by omega) ?_))
    rw [w64 (by omega) (by omega)]
    exact Pt_l1 lv U d (i + 1) _ (by rw [List.length_set]; omega) (by rw [List.length_set]; exact hL)
theorem Pt_l0 (lv : Int) (L : List MetaT) (hL : L.length ≤ 100) : ∀ (d i : Nat) (U : List MetaT), i + d = U.length → U.length ≤ 100 → Ev (fun k => millhandlaw18_PickTells.l0 k true (i : Int) l next seq log l next seq log lv U L) true
  | 0, i, U, h, hU => by
    refine Ev.step (fun _ => millhandlaw18_PickTells.l0.eq_2 ..) (ev_neg (by omega) ?_)
    exact Pt_l1 l next seq log hl hm lv U L.length 0 L (by omega) hL
  | d + 1, i, U, h, hU => by
    refine Ev.step (fun _ => millhandlaw18_PickTells.l0.eq_2 ..) (ev_pos (by omega) (ev_pos (by omega) ?_))
    rw [w64 (by omega) (by omega)]
    exact Pt_l0 lv L hL d (i + 1) _ (by rw [List.length_set]; omega) (by rw [List.length_set]; exact hU)
end
theorem rSame_ev (lv : Int) (U L : List MetaT) (hU : U.length ≤ 100) (hL : L.length ≤ 100) : Ev (fun k => millhandref18_Same.f k lv U L lv U L) true := by
  unfold millhandref18_Same.f
  exact ev_pos rfl (Ev.bind (SameMetas_ev U (by omega)) (ev_pos rfl (Ev.bind (SameMetas_ev L (by omega)) (Ev.now _))))
theorem PickTells_ev (l : List (List MetaT)) (next seq : Int) (log : ByteArray) (a : Int) : Ev (fun k => millhandlaw18_PickTells.f k l next seq log a) true := by
  unfold millhandlaw18_PickTells.f
  obtain ⟨b, hb, hfit⟩ := great_ev l next seq log
  refine Ev.bind hb ?_
  cases b with
  | true => exact ev_pos rfl (Ev.now _)
  | false =>
    obtain ⟨hl, hm⟩ := hfit rfl
    refine ev_neg (by decide) ?_
    obtain ⟨hU, hL⟩ := pickA_len l next seq log hl hm
    refine Ev.bind (Twin_ev l next seq log hl hm) (Ev.bind (Score_ev l next seq log hl hm a) (Ev.bind (refScore_ev l next seq log hl hm a) (Ev.bind (Need_ev l next seq log hl hm) (Ev.bind (refNeed_ev l next seq log hl hm) (Ev.bind (Pick_ev l next seq log hl hm) (Ev.bind (refPick_ev l next seq log hl hm) ?_))))))
    refine ev_pos rfl (ev_pos rfl (ev_pos (beq_self_eq_true _) (ev_pos rfl (Ev.bind (rSame_ev _ _ _ hU hL) (ev_pos rfl ?_)))))
    rw [beq_self_eq_true]
    refine Ev.step (fun _ => millhandlaw18_PickTells.j0.eq_2 ..) ?_
    exact Pt_l0 l next seq log hl hm _ _ hL (pickA l next seq log).2.1.length 0 _ (by omega) hU
theorem ver_open {w : World} {x : S24} {cs : Array Value} (h : k24.K w x cs.toList) : ∃ A c, cs = #[.slice A x.f0.length c, .int .i64 x.f1, .int .i64 x.f2, .string x.f3] ∧ x.f0.length ≤ c ∧ Kd.C (Kd.slice 28 k28) w A x.f0.length x.f0 := by
  obtain ⟨_, _, hcs, ⟨A, c, rfl, hle, hC⟩, ⟨_, _, rfl, rfl, ⟨_, _, rfl, rfl, rfl⟩⟩⟩ := h
  refine ⟨A, c, ?_, hle, hC⟩
  cases cs
  simpa using hcs
theorem PickTells_walk (w : World) (x0 : S24) (cs0 : Array Value) (r0 : k24.K w x0 cs0.toList) (g0_ : g24 x0) (a1 : Int) (g1_ : (Lit.int .i64 a1).wf = true) :
    Calls Try.prog 4 #[.agg cs0, .int .i64 a1] w fun e w' => e = .returned (.bool true) ∧ Below w.heap.size w w' := by
  obtain ⟨A, c, rfl, hle, hC⟩ := ver_open r0
  obtain ⟨k, h⟩ := (PickTells_ev x0.f0 x0.f1 x0.f2 x0.f3 a1).rounds
  exact millhandlaw18_PickTells.calls k A c x0.f0 x0.f1 x0.f2 x0.f3 a1 true w hC hle h
end Go.Proofs.Ytgeeignipammhaa.R

/- What the document's functions on specs come to, in plain words. -/
import Derived.Test.YtoplhlacdjlidaaRx16
import Derived.Test.YtoplhlacdjlidaaRx14
import Derived.Test.YtoplhlacdjlidaaRx15
import Derived.Test.YtoplhlacdjlidaaRx17
import Derived.Test.YtoplhlacdjlidaaRDQ
namespace Go.Proofs.Ytoplhlacdjlidaa.R
open Go.RowKit Go.Proofs.YtoplhlacdjlidaaW.PrintWords Go.Proofs.YtoplhlacdjlidaaW.PrintLast Go.Proofs.YtoplhlacdjlidaaW.PrintMore Go.Proofs.Ytoplhlacdjlidaa.Plain
set_option linter.unusedVariables false
set_option linter.unusedSimpArgs false
theorem ref_node_l0 (l : List NodeT) (i : Int) (x : List Int) (nt nw : Int) (hx : x.length ≤ 1099511627776) : ∀ (d j : Nat) (last : Int), j + d = x.length → -1 ≤ last → (j = 0 → last = -1) → (∀ h : 0 < j, ∀ h2 : j - 1 < x.length, last = x[j - 1] ∧ 0 ≤ last) →
    Ev (fun k => millhandref23_node.l0 k i (j : Int) l x nt nw) (needsOk i (l.length : Int) last (x.drop j))
  | 0, j, last, h, _, _, _ => by
    rw [List.drop_eq_nil_of_le (by omega)]
    exact Ev.step (fun _ => millhandref23_node.l0.eq_2 ..) (ev_neg (by omega) (Ev.now _))
  | d + 1, j, last, h, hl, h0, hp => by
    have hj : j < x.length := by omega
    refine Ev.step (fun _ => millhandref23_node.l0.eq_2 ..) (ev_pos (by omega) (ev_pos (by omega) ?_))
    rw [rd_int x j hj, List.drop_eq_getElem_cons hj, needsOk]
    have next : 0 ≤ x[j] → Ev (fun k => millhandref23_node.l0 k i (wrap64 ((j : Int) + 1)) l x nt nw) (needsOk i (l.length : Int) x[j] (x.drop (j + 1))) := by
      intro hx0
      rw [w64 (by omega) (by omega), show (j : Int) + 1 = ((j + 1 : Nat) : Int) by omega]
      exact ref_node_l0 l i x nt nw hx d (j + 1) x[j] (by omega) (by omega) (fun e => absurd e (by omega)) (fun _ _ => ⟨rfl, hx0⟩)
    by_cases h1 : x[j] < 0
    · rw [decide_eq_false (show ¬ last < x[j] by omega), Bool.false_and]
      exact ev_pos h1 (Ev.now _)
    · refine ev_neg h1 ?_
      by_cases h2 : x[j] ≥ (l.length : Int)
      · rw [decide_eq_false (show ¬ x[j] < (l.length : Int) by omega), Bool.false_and, Bool.and_false]
        exact ev_pos h2 (Ev.now _)
      · rw [decide_eq_true (show x[j] < (l.length : Int) by omega), Bool.true_and]
        refine ev_neg h2 ?_
        by_cases h3 : x[j] = i
        · rw [decide_eq_false (show ¬ x[j] ≠ i from fun e => e h3), Bool.false_and, Bool.and_false]
          exact ev_pos h3 (Ev.now _)
        · rw [decide_eq_true (show x[j] ≠ i from h3), Bool.true_and]
          refine ev_neg h3 ?_
          by_cases h4 : j = 0
          · have := h0 h4
            rw [decide_eq_true (show last < x[j] by omega), Bool.true_and]
            exact ev_neg (by omega) (next (by omega))
          · obtain ⟨e, hl0⟩ := hp (by omega) (by omega)
            have hw : wrap64 ((j : Int) - 1) = ((j - 1 : Nat) : Int) := by rw [w64 (by omega) (by omega)]; omega
            rw [hw]
            refine ev_pos (by omega) (ev_pos (by omega) (ev_pos (by omega) ?_))
            rw [rd_int x (j - 1) (by omega), ← e]
            by_cases h5 : x[j] ≤ last
            · rw [decide_eq_false (show ¬ last < x[j] by omega), Bool.false_and]
              exact ev_pos h5 (Ev.now _)
            · rw [decide_eq_true (show last < x[j] by omega), Bool.true_and]
              exact ev_neg h5 (next (by omega))
theorem ref_node_ev (l : List NodeT) (i : Nat) (hi : i < l.length) (hf : l[i].f0.length ≤ 1099511627776) : Ev (fun k => millhandref23_node.f k l (i : Int)) (nodeOk (i : Int) (l.length : Int) l[i]) := by
  unfold millhandref23_node.f nodeOk
  rw [rd_node l i hi]
  refine ev_pos (by omega) (ev_pos (by omega) ?_)
  obtain ⟨x, hx⟩ : ∃ x, x = l[i] := ⟨_, rfl⟩
  rw [← hx] at hf ⊢
  have bad : boundsOk x = false → Ev (fun k => millhandref23_node.j0 k (i : Int) true l x.f0 x.f1 x.f2) (boundsOk x && needsOk (i : Int) (l.length : Int) (-1) x.f0) := by
    intro h
    rw [h, Bool.false_and]
    exact Ev.step (fun _ => millhandref23_node.j0.eq_2 ..) (ev_pos rfl (Ev.now _))
  by_cases h1 : x.f1 < 1
  · exact ev_pos h1 (bad (decide_eq_false (by omega)))
  · refine ev_neg h1 ?_
    by_cases h2 : x.f1 > 5
    · exact ev_pos h2 (bad (decide_eq_false (by omega)))
    · refine ev_neg h2 ?_
      by_cases h3 : x.f2 < 0
      · exact ev_pos h3 (bad (decide_eq_false (by omega)))
      · refine ev_neg h3 ?_
        by_cases h4 : x.f2 > 1048576
        · rw [decide_eq_true h4]
          exact bad (decide_eq_false (by omega))
        · rw [decide_eq_false h4, show boundsOk x = true from decide_eq_true (by omega), Bool.true_and]
          have := ref_node_l0 l (i : Int) x.f0 x.f1 x.f2 hf x.f0.length 0 (-1) (by omega) (by omega) (fun _ => rfl) (fun h => absurd h (by omega))
          exact Ev.step (fun _ => millhandref23_node.j0.eq_2 ..) (ev_neg (by decide) this)
theorem met_l0 (done : List Bool) (x : List Int) (nt nw : Int) (hx : x.length ≤ 1099511627776) (hr : ∀ k ∈ x, 0 ≤ k ∧ k < (done.length : Int)) : ∀ (d j : Nat), j + d = x.length → Ev (fun k => millhandref23_met.l0 k done (j : Int) x nt nw) (metS (x.drop j) done)
  | 0, j, h => by
    rw [List.drop_eq_nil_of_le (by omega)]
    exact Ev.step (fun _ => millhandref23_met.l0.eq_2 ..) (ev_neg (by omega) (Ev.now _))
  | d + 1, j, h => by
    have hj : j < x.length := by omega
    obtain ⟨k0, k1⟩ := hr x[j] (List.getElem_mem hj)
    obtain ⟨v, hv⟩ := Int.eq_ofNat_of_zero_le k0
    refine Ev.step (fun _ => millhandref23_met.l0.eq_2 ..) (ev_pos (by omega) (ev_pos (by omega) ?_))
    rw [rd_int x j hj, List.drop_eq_getElem_cons hj]
    refine ev_pos k0 (ev_pos k1 ?_)
    have hm : metS (x[j] :: x.drop (j + 1)) done = (done.getD v false && metS (x.drop (j + 1)) done) := by
      simp only [metS, List.all_cons, hv, Int.toNat_natCast]
    rw [hm, hv, rd_boolL done v (by omega)]
    have hg : done.getD v false = done[v]'(by omega) := by simp [List.getD, List.getElem?_eq_getElem (show v < done.length by omega)]
    rw [hg]
    cases hb : done[v]'(by omega) with
    | false =>
      rw [Bool.false_and]
      exact ev_neg (by decide) (Ev.now _)
    | true =>
      rw [Bool.true_and]
      refine ev_pos rfl ?_
      rw [w64 (by omega) (by omega), show (j : Int) + 1 = ((j + 1 : Nat) : Int) by omega]
      exact met_l0 done x nt nw hx hr d (j + 1) (by omega)
theorem met_ev (x : NodeT) (done : List Bool) (hx : x.f0.length ≤ 1099511627776) (hr : ∀ k ∈ x.f0, 0 ≤ k ∧ k < (done.length : Int)) : Ev (fun k => millhandref23_met.f k x.f0 x.f1 x.f2 done) (metS x.f0 done) := by
  unfold millhandref23_met.f
  exact met_l0 done x.f0 x.f1 x.f2 hx hr x.f0.length 0 (by omega)
theorem row_l1 (l : List NodeT) (hf : fitS l) (hs : shapeS l = true) (acc : List Nat) (x5 : Int) (r : List Int) (ha : acc.length ≤ 1099511627776)
    (hn : nextN l acc = none → Ev (fun k => millhandref23_Row.l0 k (marks l.length acc) (acc.map Int.ofNat) (wrap64 (x5 + 1)) l) r)
    (hi : ∀ i, nextN l acc = some i → Ev (fun k => millhandref23_Row.l0 k (marks l.length (acc ++ [i])) ((acc ++ [i]).map Int.ofNat) (wrap64 (x5 + 1)) l) r) :
    ∀ (d j : Nat), j + d = l.length → (∀ i, i < j → avail l acc i = false) → Ev (fun k => millhandref23_Row.l1 k (marks l.length acc) (acc.map Int.ofNat) x5 (j : Int) l) r
  | 0, j, h, hj => by
    refine Ev.step (fun _ => millhandref23_Row.l1.eq_2 ..) (ev_neg (by omega) (hn ?_))
    unfold nextN
    rw [List.find?_eq_none]
    intro i hi'
    rw [hj i (by have := List.mem_range.mp hi'; omega)]
    decide
  | d + 1, j, h, hj => by
    have hjl : j < l.length := by omega
    have hml := marks_length l.length acc
    refine Ev.step (fun _ => millhandref23_Row.l1.eq_2 ..) (ev_pos (by omega) (ev_pos (by omega) (ev_pos (by omega) ?_)))
    rw [rd_boolL _ j (by omega), rd_node l j hjl]
    have hg : (marks l.length acc)[j]'(by omega) = acc.contains j := by
      have := marks_at l.length acc j hjl
      rw [← this]
      simp [List.getD, List.getElem?_eq_getElem (show j < (marks l.length acc).length by omega)]
    rw [hg]
    have next : avail l acc j = false → Ev (fun k => millhandref23_Row.l1 k (marks l.length acc) (acc.map Int.ofNat) x5 (wrap64 ((j : Int) + 1)) l) r := by
      intro hav
      have := hf.1
      rw [w64 (by omega) (by omega), show (j : Int) + 1 = ((j + 1 : Nat) : Int) by omega]
      refine row_l1 l hf hs acc x5 r ha hn hi d (j + 1) (by omega) fun i hi' => ?_
      by_cases e : i = j
      · rw [e]; exact hav
      · exact hj i (by omega)
    cases hc : acc.contains j with
    | true => exact ev_pos rfl (next (by unfold avail; rw [hc]; rfl))
    | false =>
      have hnd := shape_needs l hs j hjl
      rw [needs_at l j hjl] at hnd
      refine ev_neg (by decide) (Ev.bind (met_ev l[j] (marks l.length acc) (hf.2 _ (List.getElem_mem hjl)) (fun k hk => by
        have := hnd k hk
        rw [hml]
        exact ⟨this.1, this.2.1⟩)) ?_)
      rw [met_marks l hs acc j hjl]
      have hav : avail l acc j = (needs l j).all (inN acc) := by unfold avail; rw [hc]; rfl
      cases hb : (needs l j).all (inN acc) with
      | false => exact ev_neg (by decide) (next (by rw [hav, hb]))
      | true =>
        refine ev_pos rfl (ev_pos (by rw [List.length_map]; omega) ?_)
        have hnx : nextN l acc = some j := by
          unfold nextN
          rw [List.find?_range_eq_some]
          refine ⟨by rw [hav, hb], List.mem_range.mpr hjl, fun i hij => ?_⟩
          rw [hj i hij]
          rfl
        have := hi j hnx
        rw [Int.toNat_natCast, marks_set l.length acc j hjl]
        rw [List.map_append] at this
        exact this
theorem row_l0 (l : List NodeT) (hf : fitS l) (hs : shapeS l = true) : ∀ (d i : Nat) (acc : List Nat), i + d = l.length → acc.length ≤ i → Ev (fun k => millhandref23_Row.l0 k (marks l.length acc) (acc.map Int.ofNat) (i : Int) l) ((rowGo l d acc).map Int.ofNat)
  | 0, i, acc, h, ha => Ev.step (fun _ => millhandref23_Row.l0.eq_2 ..) (ev_neg (by omega) (Ev.now _))
  | d + 1, i, acc, h, ha => by
    have hfl := hf.1
    refine Ev.step (fun _ => millhandref23_Row.l0.eq_2 ..) (ev_pos (by omega) ?_)
    have e : wrap64 ((i : Int) + 1) = ((i + 1 : Nat) : Int) := by rw [w64 (by omega) (by omega)]; omega
    refine row_l1 l hf hs acc (i : Int) _ (by omega) ?_ ?_ l.length 0 (by omega) (fun i hi => absurd hi (by omega))
    · intro hn
      rw [e]
      have := row_l0 l hf hs d (i + 1) acc (by omega) (by omega)
      have hr : rowGo l (d + 1) acc = acc := by rw [rowGo, hn]
      have hr2 : ∀ d, rowGo l d acc = acc := fun d => by cases d with
        | zero => rfl
        | succ d => rw [rowGo, hn]
      rw [hr2 d] at this
      rw [hr]
      exact this
    · intro j hn
      rw [e]
      have hr : rowGo l (d + 1) acc = rowGo l d (acc ++ [j]) := by rw [rowGo, hn]
      rw [hr]
      exact row_l0 l hf hs d (i + 1) (acc ++ [j]) (by omega) (by rw [List.length_append]; simp; omega)
theorem ref_Row_ev (l : List NodeT) (hf : fitS l) (hs : shapeS l = true) : Ev (fun k => millhandref23_Row.f k l) (rowS l) := by
  have hfl := hf.1
  unfold millhandref23_Row.f
  refine ev_pos (by omega) (ev_pos (by omega) ?_)
  have := row_l0 l hf hs l.length 0 [] (by omega) (by simp)
  rw [marks_nil] at this
  rw [Int.toNat_natCast]
  exact this
theorem may_l0 (l : List NodeT) (hf : fitS l) (hm : manyOk l = true) : ∀ (d i : Nat), i + d = l.length → (shapeFrom (l.length : Int) i (l.drop i) = true → shapeS l = true) → (shapeFrom (l.length : Int) i (l.drop i) = false → shapeS l = false) → Ev (fun k => millhandref23_May.l0 k (i : Int) l) (mayS l)
  | 0, i, h, h1, h2 => by
    have hfl := hf.1
    have hs : shapeS l = true := h1 (by rw [List.drop_eq_nil_of_le (by omega)]; rfl)
    refine Ev.step (fun _ => millhandref23_May.l0.eq_2 ..) (ev_neg (by omega) (Ev.bind (ref_Row_ev l hf hs) (ev_some ?_)))
    unfold mayS
    rw [hm, hs, cyc_row l hs, rowS_length, Bool.true_and, Bool.true_and, Bool.not_not, Bool.eq_iff_iff]
    simp
    omega
  | d + 1, i, h, h1, h2 => by
    have hfl := hf.1
    have hi : i < l.length := by omega
    rw [List.drop_eq_getElem_cons hi, shapeFrom] at h1 h2
    refine Ev.step (fun _ => millhandref23_May.l0.eq_2 ..) (ev_pos (by omega) (Ev.bind (ref_node_ev l i hi (hf.2 _ (List.getElem_mem hi))) ?_))
    cases hb : nodeOk (i : Int) (l.length : Int) l[i] with
    | false =>
      have hs : shapeS l = false := h2 (by rw [hb]; rfl)
      refine ev_neg (by decide) (ev_some ?_)
      unfold mayS
      rw [hs, Bool.false_and, Bool.and_false]
    | true =>
      rw [hb, Bool.true_and] at h1 h2
      refine ev_pos rfl ?_
      rw [w64 (by omega) (by omega), show (i : Int) + 1 = ((i + 1 : Nat) : Int) by omega]
      exact may_l0 l hf hm d (i + 1) (by omega) h1 h2
theorem ref_May_ev (l : List NodeT) (hf : fitS l) : Ev (fun k => millhandref23_May.f k l) (mayS l) := by
  unfold millhandref23_May.f
  have bad : manyOk l = false → Ev (fun k => millhandref23_May.j0 k true l) (mayS l) := by
    intro h
    unfold mayS
    rw [h, Bool.false_and]
    exact Ev.step (fun _ => millhandref23_May.j0.eq_2 ..) (ev_pos rfl (Ev.now _))
  by_cases h1 : (l.length : Int) < 1
  · exact ev_pos h1 (bad (decide_eq_false (by omega)))
  · refine ev_neg h1 ?_
    by_cases h2 : (l.length : Int) > 12
    · rw [decide_eq_true h2]
      exact bad (decide_eq_false (by omega))
    · rw [decide_eq_false h2]
      have hm : manyOk l = true := decide_eq_true (by omega)
      have := may_l0 l hf hm l.length 0 (by omega) (fun h => h) (fun h => h)
      exact Ev.step (fun _ => millhandref23_May.j0.eq_2 ..) (ev_neg (by decide) this)
theorem open_l0 (l : List NodeT) (hf : fitS l) (hs : shapeS l = true) (done : List Bool) (hd : done.length = l.length) : ∀ (d i : Nat) (acc : List Int), i + d = l.length → acc.length ≤ i →
    Ev (fun k => millhandref23_Open.l0 k done acc (i : Int) l) (acc ++ (((List.range' i d).filter fun i => !(done.getD i false) && metS (needs l i) done).map Int.ofNat))
  | 0, i, acc, h, ha => Ev.step (fun _ => millhandref23_Open.l0.eq_2 ..) (ev_neg (by omega) (ev_some (by simp)))
  | d + 1, i, acc, h, ha => by
    have hfl := hf.1
    have hi : i < l.length := by omega
    have hg : done.getD i false = done[i]'(by omega) := by simp [List.getD, List.getElem?_eq_getElem (show i < done.length by omega)]
    refine Ev.step (fun _ => millhandref23_Open.l0.eq_2 ..) (ev_pos (by omega) (ev_pos (by omega) (ev_pos (by omega) ?_)))
    rw [rd_boolL done i (by omega), rd_node l i hi, List.range'_succ, List.filter_cons, hg, needs_at l i hi]
    have e : wrap64 ((i : Int) + 1) = ((i + 1 : Nat) : Int) := by rw [w64 (by omega) (by omega)]; omega
    have hnd := shape_needs l hs i hi
    rw [needs_at l i hi] at hnd
    cases hb : done[i]'(by omega) with
    | true =>
      refine ev_pos rfl ?_
      rw [e]
      exact open_l0 l hf hs done hd d (i + 1) acc (by omega) (by omega)
    | false =>
      refine ev_neg (by decide) (Ev.bind (met_ev l[i] done (hf.2 _ (List.getElem_mem hi)) (fun k hk => by
        have := hnd k hk
        rw [hd]
        exact ⟨this.1, this.2.1⟩)) ?_)
      rw [Bool.not_false, Bool.true_and]
      cases hm : metS l[i].f0 done with
      | false =>
        refine ev_neg (by decide) ?_
        rw [e]
        exact open_l0 l hf hs done hd d (i + 1) acc (by omega) (by omega)
      | true =>
        refine ev_pos rfl (ev_pos (by omega) ?_)
        rw [e]
        have := open_l0 l hf hs done hd d (i + 1) (acc ++ [(i : Int)]) (by omega) (by rw [List.length_append]; simp; omega)
        refine ev_eq this ?_
        simp
theorem ref_Open_ev (l : List NodeT) (hf : fitS l) (hs : shapeS l = true) (done : List Bool) (hd : done.length = l.length) : Ev (fun k => millhandref23_Open.f k l done) (openS l done) := by
  unfold millhandref23_Open.f
  have := open_l0 l hf hs done hd l.length 0 [] (by omega) (by simp)
  refine ev_eq this ?_
  rw [List.nil_append, ← List.range_eq_range']
  rfl
end Go.Proofs.Ytoplhlacdjlidaa.R

/- Depths, and what is ready, in plain words. -/
import Derived.Test.YtoplhlacdjlidaaRx4
import Derived.Test.YtoplhlacdjlidaaRx5
import Derived.Test.YtoplhlacdjlidaaRx6
import Derived.Test.YtoplhlacdjlidaaRx7
import Derived.Test.YtoplhlacdjlidaaRx8
import Derived.Laws.BitsLemmas
import Derived.Test.YtoplhlacdjlidaaRDO
namespace Go.Proofs.Ytoplhlacdjlidaa.R
open Go.RowKit Go.Proofs.YtoplhlacdjlidaaW.PrintWords Go.Proofs.YtoplhlacdjlidaaW.PrintLast Go.Proofs.YtoplhlacdjlidaaW.PrintMore Go.Proofs.Ytoplhlacdjlidaa.Plain
set_option linter.unusedVariables false
set_option linter.unusedSimpArgs false

/-! ### depths -/
theorem rd_set_eq (d : List Int) (i : Nat) (m : Int) (h : i < d.length) : rd (d.set i m) (i : Int) = m := by
  rw [rd_int _ i (by rw [List.length_set]; exact h)]
  simp
theorem rd_set_ne (d : List Int) (i v : Nat) (m : Int) (h : i ≠ v) : rd (d.set i m) (v : Int) = rd d (v : Int) := by
  simp [rd, List.getD, List.getElem?_set_ne h]
def depStep (d : List Int) (m : Int) (k : Int) : Int := mx m (rd d k + 1)
def depOf (l : List NodeT) (d : List Int) (i : Nat) : Int := (needs l i).foldl (depStep d) 1
def depGo (l : List NodeT) : List Nat → List Int → List Int
  | [], d => d
  | i :: r, d => depGo l r (d.set i (depOf l d i))
def depS (l : List NodeT) : List Int := depGo l (rowN l) (List.replicate l.length 0)
theorem depStep_le {d : List Int} {c m k : Int} (hd : 0 ≤ rd d k ∧ rd d k ≤ c) (hm : 0 ≤ m ∧ m ≤ c + 1) : 0 ≤ depStep d m k ∧ depStep d m k ≤ c + 1 := by
  unfold depStep mx
  split <;> omega
theorem dep_fold {d : List Int} {c : Int} : ∀ (x : List Int) (m : Int), (∀ k ∈ x, 0 ≤ rd d k ∧ rd d k ≤ c) → 0 ≤ m ∧ m ≤ c + 1 → 0 ≤ x.foldl (depStep d) m ∧ x.foldl (depStep d) m ≤ c + 1
  | [], m, _, hm => hm
  | k :: x, m, hd, hm => dep_fold x _ (fun k hk => hd k (List.mem_cons_of_mem _ hk)) (depStep_le (hd k (by simp)) hm)
theorem depth_l1 (l : List NodeT) (hs : shapeS l = true) (h12 : l.length ≤ 12) (i : Nat) (hi : i < l.length) (d : List Int) (hd : d.length = l.length) (c : Nat) (hc : c ≤ 1000) (hb : ∀ v : Nat, 0 ≤ rd d v ∧ rd d v ≤ c) (row : List Int) (n x : Int) (r : List Int × Int)
    (h0 : Ev (fun k => dag_Depth.l0 k (d.set i (depOf l d i)) row n (wrap64 (x + 1)) l) r) : ∀ (e j : Nat) (m : Int), j + e = l[i].f0.length → 0 ≤ m ∧ m ≤ (c : Int) + 1 → (l[i].f0.drop j).foldl (depStep d) m = depOf l d i →
    Ev (fun k => dag_Depth.l1 k (d.set i m) (i : Int) row n x l[i].f0 (l[i].f0.length : Int) (j : Int) l) r
  | 0, j, m, h, hm, hf => by
    rw [List.drop_eq_nil_of_le (by omega)] at hf
    refine Ev.step (fun _ => dag_Depth.l1.eq_2 ..) (ev_neg (by omega) ?_)
    rw [show m = depOf l d i from hf]
    exact h0
  | e + 1, j, m, h, hm, hf => by
    have hj : j < l[i].f0.length := by omega
    have hnd := shape_needs l hs i hi
    rw [needs_at l i hi] at hnd
    have hlen : l[i].f0.length ≤ l.length := shape_len l hs i hi
    obtain ⟨k0, k1, k2⟩ := hnd _ (List.getElem_mem hj)
    obtain ⟨v, hv⟩ := Int.eq_ofNat_of_zero_le k0
    refine Ev.step (fun _ => dag_Depth.l1.eq_2 ..) (ev_pos (by omega) (ev_pos (by omega) (ev_pos (by omega) (ev_pos (by omega) (ev_pos (by rw [List.length_set]; omega) ?_)))))
    rw [rd_int l[i].f0 j hj, hv]
    refine ev_pos (by omega) (ev_pos (by rw [List.length_set]; omega) ?_)
    have hw := hb v
    rw [Int.toNat_natCast, List.set_set, rd_set_eq d i m (by omega), rd_set_ne d i v m (by omega), w64 (show -9223372036854775808 ≤ rd d (v : Int) + 1 by omega) (by omega)]
    rw [List.drop_eq_getElem_cons hj, List.foldl_cons, hv] at hf
    have := depth_l1 l hs h12 i hi d hd c hc hb row n x r h0 e (j + 1) (depStep d m (v : Int)) (by omega) (depStep_le hw hm) hf
    have e2 : wrap64 ((j : Int) + 1) = ((j + 1 : Nat) : Int) := by
      rw [w64 (by omega) (by omega)]; omega
    rw [e2]
    exact this
theorem depth_l0 (l : List NodeT) (hs : shapeS l = true) (h12 : l.length ≤ 12) (row : List Nat) (hrow : ∀ a ∈ row, a < l.length) (hrl : row.length ≤ 12) : ∀ (e j : Nat) (d : List Int), j + e = row.length → d.length = l.length → (∀ v : Nat, 0 ≤ rd d v ∧ rd d v ≤ j) →
    Ev (fun k => dag_Depth.l0 k d (row.map Int.ofNat) ((row.map Int.ofNat).length : Int) (j : Int) l) (depGo l (row.drop j) d, 0)
  | 0, j, d, h, hd, hb => by
    rw [List.drop_eq_nil_of_le (by omega)]
    exact Ev.step (fun _ => dag_Depth.l0.eq_2 ..) (ev_neg (by rw [List.length_map]; omega) (Ev.now _))
  | e + 1, j, d, h, hd, hb => by
    have hj : j < row.length := by omega
    have hi := hrow _ (List.getElem_mem hj)
    have hjm : j < (row.map Int.ofNat).length := by rw [List.length_map]; exact hj
    have he : rd (row.map Int.ofNat) (j : Int) = (row[j] : Int) := by rw [rd_int _ j hjm]; simp
    refine Ev.step (fun _ => dag_Depth.l0.eq_2 ..) (ev_pos (by omega) (ev_pos (by omega) (ev_pos (by omega) ?_)))
    rw [he]
    refine ev_pos (by omega) (ev_pos (by omega) (ev_pos (by omega) ?_))
    rw [rd_node l _ hi, Int.toNat_natCast, List.drop_eq_getElem_cons hj, depGo]
    have hlen : l[row[j]].f0.length ≤ l.length := shape_len l hs _ hi
    have hnd : ∀ k ∈ needs l row[j], 0 ≤ rd d k ∧ rd d k ≤ (j : Int) := by
      intro k hk
      obtain ⟨k0, _, _⟩ := shape_needs l hs _ hi k hk
      obtain ⟨v, rfl⟩ := Int.eq_ofNat_of_zero_le k0
      exact hb v
    have hlt : row[j] < d.length := by omega
    have hfold : 0 ≤ depOf l d row[j] ∧ depOf l d row[j] ≤ ((j + 1 : Nat) : Int) := dep_fold (needs l row[j]) 1 hnd (by omega)
    have e2 : wrap64 ((j : Int) + 1) = ((j + 1 : Nat) : Int) := by clear hfold; rw [w64 (by omega) (by omega)]; omega
    have hq : Ev (fun k => dag_Depth.l0 k (d.set row[j] (depOf l d row[j])) (row.map Int.ofNat) ((row.map Int.ofNat).length : Int) (wrap64 ((j : Int) + 1)) l) (depGo l (row.drop (j + 1)) (d.set row[j] (depOf l d row[j])), 0) := by
      rw [e2]
      refine depth_l0 l hs h12 row hrow hrl e (j + 1) (d.set row[j] (depOf l d row[j])) (by clear hfold; omega) (by rw [List.length_set]; exact hd) fun v => ?_
      by_cases ev : row[j] = v
      · rw [← ev, rd_set_eq d _ _ hlt]
        exact hfold
      · rw [rd_set_ne d _ _ _ ev]
        exact ⟨(hb v).1, Int.le_trans (hb v).2 (Int.ofNat_le.mpr (Nat.le_succ j))⟩
    clear hfold
    have := depth_l1 l hs h12 row[j] hi d hd j (by omega) hb _ _ _ _ hq l[row[j]].f0.length 0 1 (Nat.zero_add _) ⟨by decide, by omega⟩ (by rw [List.drop_zero, depOf, needs_at l _ hi])
    exact this
theorem row_lt (l : List NodeT) : ∀ a ∈ rowN l, a < l.length := by
  intro a ha
  obtain ⟨p, s, e⟩ := List.append_of_mem ha
  exact ((row_all l).1 p a s e).1
def depthS (l : List NodeT) : List Int × Int := if checkS l = 0 then (depS l, 0) else ([], checkS l)
theorem Depth_ev (l : List NodeT) (hf : fitS l) : Ev (fun k => dag_Depth.f k l) (depthS l) := by
  unfold dag_Depth.f depthS
  refine Ev.bind (check_ev l hf) ?_
  by_cases h : checkS l = 0
  · rw [if_pos h]
    have hp := may_parts ((check_zero l).mp h)
    refine ev_pos h (ev_pos (by omega) (ev_pos (by omega) (Ev.bind (order_ev l hp.2.2.1 hp.2.1) ?_)))
    rw [Int.toNat_natCast]
    have := depth_l0 l hp.2.2.1 hp.2.1 (rowN l) (row_lt l) (by omega) (rowN l).length 0 (List.replicate l.length 0) (by omega) (by simp) (fun v => by
      unfold rd
      rw [List.getD_eq_getElem?_getD, List.getElem?_replicate]
      split <;> simp)
    exact this
  · rw [if_neg h]
    exact ev_neg h (Ev.now _)

/-! ### what is ready -/
theorem index_l0 (done : List Bool) (x : List Int) (hx : x.length ≤ 1099511627776) (hr : ∀ k ∈ x, 0 ≤ k ∧ k < (done.length : Int)) : ∀ (d j : Nat), j + d = x.length → ∃ r : Int, Ev (fun k => slices_IndexFunc_int_int.l0 k x done (x.length : Int) (j : Int)) r ∧ decide (r ≥ 0) = !(metS (x.drop j) done)
  | 0, j, h => by
    rw [List.drop_eq_nil_of_le (by omega)]
    exact ⟨-1, Ev.step (fun _ => slices_IndexFunc_int_int.l0.eq_2 ..) (ev_neg (by omega) (Ev.now _)), rfl⟩
  | d + 1, j, h => by
    have hj : j < x.length := by omega
    obtain ⟨k0, k1⟩ := hr x[j] (List.getElem_mem hj)
    obtain ⟨v, hv⟩ := Int.eq_ofNat_of_zero_le k0
    have hm : metS (x[j] :: x.drop (j + 1)) done = (done.getD v false && metS (x.drop (j + 1)) done) := by
      simp only [metS, List.all_cons, hv, Int.toNat_natCast]
    have hg : done.getD v false = done[v]'(by omega) := by simp [List.getD, List.getElem?_eq_getElem (show v < done.length by omega)]
    have hone : dag_Ready_1.f (rd x (j : Int)) done = some (!(done[v]'(by omega))) := by
      unfold dag_Ready_1.f
      rw [rd_int x j hj, hv, if_pos (by omega), if_pos (by omega), rd_boolL done v (by omega)]
    rw [List.drop_eq_getElem_cons hj, hm, hg]
    cases hb : done[v]'(by omega) with
    | false =>
      rw [hb] at hone
      refine ⟨(j : Int), Ev.step (fun _ => slices_IndexFunc_int_int.l0.eq_2 ..) (ev_pos (by omega) (ev_pos (by omega) (ev_pos (by omega) ?_))), ?_⟩
      · exact Ev.bind (show Ev (fun _ => dag_Ready_1.f (rd x (j : Int)) done) true by rw [hone]; exact Ev.now _) (ev_pos rfl (Ev.now _))
      · rw [Bool.false_and]
        exact decide_eq_true (by omega)
    | true =>
      rw [hb] at hone
      obtain ⟨r, h1, h2⟩ := index_l0 done x hx hr d (j + 1) (by omega)
      refine ⟨r, Ev.step (fun _ => slices_IndexFunc_int_int.l0.eq_2 ..) (ev_pos (by omega) (ev_pos (by omega) (ev_pos (by omega) ?_))), ?_⟩
      · refine Ev.bind (show Ev (fun _ => dag_Ready_1.f (rd x (j : Int)) done) false by rw [hone]; exact Ev.now _) (ev_neg (by decide) ?_)
        rw [w64 (by omega) (by omega), show (j : Int) + 1 = ((j + 1 : Nat) : Int) by omega]
        exact h1
      · rw [Bool.true_and]
        exact h2
theorem contains_ev (x : List Int) (done : List Bool) (hx : x.length ≤ 1099511627776) (hr : ∀ k ∈ x, 0 ≤ k ∧ k < (done.length : Int)) : Ev (fun k => slices_ContainsFunc_int_int.f k x done) (!(metS x done)) := by
  obtain ⟨r, h1, h2⟩ := index_l0 done x hx hr x.length 0 (by omega)
  unfold slices_ContainsFunc_int_int.f slices_IndexFunc_int_int.f
  refine Ev.bind h1 (ev_some ?_)
  exact h2
theorem ready_l0 (l : List NodeT) (hf : fitS l) (hs : shapeS l = true) (done : List Bool) (hd : done.length = l.length) : ∀ (d i : Nat) (acc : List Int), i + d = l.length → acc.length ≤ i →
    Ev (fun k => dag_Ready.l0 k done acc l (l.length : Int) (i : Int)) (acc ++ (((List.range' i d).filter fun i => !(done.getD i false) && metS (needs l i) done).map Int.ofNat), 0)
  | 0, i, acc, h, ha => Ev.step (fun _ => dag_Ready.l0.eq_2 ..) (ev_neg (by omega) (ev_some (by simp)))
  | d + 1, i, acc, h, ha => by
    have hfl := hf.1
    have hi : i < l.length := by omega
    have hg : done.getD i false = done[i]'(by omega) := by simp [List.getD, List.getElem?_eq_getElem (show i < done.length by omega)]
    refine Ev.step (fun _ => dag_Ready.l0.eq_2 ..) (ev_pos (by omega) (ev_pos (by omega) (ev_pos (by omega) (ev_pos (by omega) ?_))))
    rw [rd_boolL done i (by omega), rd_node l i hi, List.range'_succ, List.filter_cons, hg, needs_at l i hi]
    have e : wrap64 ((i : Int) + 1) = ((i + 1 : Nat) : Int) := by rw [w64 (by omega) (by omega)]; omega
    have hnd := shape_needs l hs i hi
    rw [needs_at l i hi] at hnd
    cases hb : done[i]'(by omega) with
    | true =>
      refine ev_pos rfl ?_
      rw [e]
      exact ready_l0 l hf hs done hd d (i + 1) acc (by omega) (by omega)
    | false =>
      refine ev_neg (by decide) (Ev.bind (contains_ev l[i].f0 done (hf.2 _ (List.getElem_mem hi)) (fun k hk => by
        have := hnd k hk
        rw [hd]
        exact ⟨this.1, this.2.1⟩)) ?_)
      rw [Bool.not_false, Bool.true_and]
      cases hm : metS l[i].f0 done with
      | false =>
        refine ev_pos rfl ?_
        rw [e]
        exact ready_l0 l hf hs done hd d (i + 1) acc (by omega) (by omega)
      | true =>
        refine ev_neg (by decide) (ev_pos (by omega) ?_)
        rw [e]
        have := ready_l0 l hf hs done hd d (i + 1) (acc ++ [(i : Int)]) (by omega) (by rw [List.length_append]; simp; omega)
        refine ev_eq this ?_
        simp
def readyS (l : List NodeT) (done : List Bool) : List Int × Int := if checkS l = 0 then (if done.length = l.length then (openS l done, 0) else ([], 4)) else ([], checkS l)
theorem Ready_ev (l : List NodeT) (hf : fitS l) (done : List Bool) : Ev (fun k => dag_Ready.f k l done) (readyS l done) := by
  unfold dag_Ready.f readyS
  refine Ev.bind (check_ev l hf) ?_
  by_cases h : checkS l = 0
  · rw [if_pos h]
    have hp := may_parts ((check_zero l).mp h)
    refine ev_pos h ?_
    by_cases hd : done.length = l.length
    · rw [if_pos hd]
      have := ready_l0 l hf hp.2.2.1 done hd l.length 0 [] (by omega) (by simp)
      refine ev_pos (by omega) (ev_eq this ?_)
      rw [List.nil_append, ← List.range_eq_range']
      rfl
    · rw [if_neg hd]
      exact ev_neg (by omega) (Ev.now _)
  · rw [if_neg h]
    exact ev_neg h (Ev.now _)
theorem Roots_ev (l : List NodeT) (hf : fitS l) : Ev (fun k => dag_Roots.f k l) (readyS l (List.replicate l.length false)) := by
  unfold dag_Roots.f
  have hfl := hf.1
  refine ev_pos (by omega) (ev_pos (by omega) ?_)
  rw [Int.toNat_natCast]
  exact Ev.bind (Ready_ev l hf _) (Ev.now _)
end Go.Proofs.Ytoplhlacdjlidaa.R

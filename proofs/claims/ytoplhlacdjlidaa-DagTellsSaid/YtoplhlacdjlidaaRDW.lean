/- The document's depths: rounds of relaxing. -/
import Derived.Test.YtoplhlacdjlidaaRx19
import Derived.Test.YtoplhlacdjlidaaRDT
namespace Go.Proofs.Ytoplhlacdjlidaa.R
open Go.RowKit Go.Proofs.YtoplhlacdjlidaaW.PrintWords Go.Proofs.YtoplhlacdjlidaaW.PrintLast Go.Proofs.YtoplhlacdjlidaaW.PrintMore Go.Proofs.Ytoplhlacdjlidaa.Plain
set_option linter.unusedVariables false
set_option linter.unusedSimpArgs false
def relStep (d : List Int) (m : Int) (k : Int) : Int := mx m (rd d k)
/-- One node's depth, as the others' stand. -/
def relOf (l : List NodeT) (d : List Int) (i : Nat) : Int := (needs l i).foldl (relStep d) 0 + 1
/-- A round over so many nodes, from one on. -/
def relRow (l : List NodeT) : Nat → Nat → List Int → List Int
  | 0, _, d => d
  | q + 1, i, d => relRow l q (i + 1) (d.set i (relOf l d i))
/-- So many rounds. -/
def relGo (l : List NodeT) : Nat → List Int → List Int
  | 0, d => d
  | q + 1, d => relGo l q (relRow l l.length 0 d)
theorem relStep_le {d : List Int} {c m k : Int} (hd : 0 ≤ rd d k ∧ rd d k ≤ c) (hm : 0 ≤ m ∧ m ≤ c) : 0 ≤ relStep d m k ∧ relStep d m k ≤ c := by
  unfold relStep mx
  split <;> omega
theorem refDepth_l2 (l : List NodeT) (hs : shapeS l = true) (h12 : l.length ≤ 12) (i : Nat) (hi : i < l.length) (d : List Int) (hd : d.length = l.length) (c : Nat) (hc : c ≤ 1000) (hb : ∀ v : Nat, 0 ≤ rd d v ∧ rd d v ≤ c) (x5 : Int) (r : List Int × Int)
    (h0 : Ev (fun k => millhandref23_Depth.l1 k (d.set i (relOf l d i)) x5 (wrap64 ((i : Int) + 1)) l) r) : ∀ (e j : Nat) (m : Int), j + e = l[i].f0.length → 0 ≤ m ∧ m ≤ (c : Int) → (l[i].f0.drop j).foldl (relStep d) m + 1 = relOf l d i →
    Ev (fun k => millhandref23_Depth.l2 k d x5 (i : Int) m (j : Int) l) r
  | 0, j, m, h, hm, hf0 => by
    have HF := Aside0.mk hf0
    clear hf0
    have hdrop : l[i].f0.drop j = [] := List.drop_eq_nil_of_le (by omega)
    refine Ev.step (fun _ => millhandref23_Depth.l2.eq_2 ..) (ev_pos (by omega) (ev_pos (by omega) ?_))
    rw [rd_node l i hi]
    refine ev_neg (by omega) (ev_pos (by omega) ?_)
    rw [w64 (by omega) (by omega), Int.toNat_natCast]
    have hf := HF.out
    rw [hdrop, List.foldl_nil] at hf
    rw [hf]
    exact h0
  | e + 1, j, m, h, hm, hf0 => by
    have HF := Aside0.mk hf0
    clear hf0
    have hj : j < l[i].f0.length := by omega
    have hnd := shape_needs l hs i hi
    rw [needs_at l i hi] at hnd
    have hlen : l[i].f0.length ≤ l.length := shape_len l hs i hi
    obtain ⟨k0, k1, k2⟩ := hnd _ (List.getElem_mem hj)
    obtain ⟨v, hv⟩ := Int.eq_ofNat_of_zero_le k0
    have HW := Aside0.mk (hb v)
    have HF2 : Aside0 ((l[i].f0.drop (j + 1)).foldl (relStep d) (relStep d m (v : Int)) + 1 = relOf l d i) := ⟨by
      have hf := HF.out
      rw [List.drop_eq_getElem_cons hj, List.foldl_cons, hv] at hf
      exact hf⟩
    have HM := Aside0.mk (relStep_le HW.out hm)
    have next := refDepth_l2 l hs h12 i hi d hd c hc hb x5 r h0 e (j + 1) (relStep d m (v : Int)) (by omega) HM.out HF2.out
    refine Ev.step (fun _ => millhandref23_Depth.l2.eq_2 ..) (ev_pos (by omega) (ev_pos (by omega) ?_))
    rw [rd_node l i hi]
    refine ev_pos (by omega) (ev_pos (by omega) ?_)
    rw [rd_int l[i].f0 j hj, hv]
    refine ev_pos (by omega) (ev_pos (by omega) ?_)
    rw [show wrap64 ((j : Int) + 1) = ((j + 1 : Nat) : Int) by rw [w64 (by omega) (by omega)]; omega]
    unfold relStep mx at next
    by_cases hg : rd d (v : Int) > m
    · rw [if_pos hg] at next
      exact ev_pos hg next
    · rw [if_neg hg] at next
      exact ev_neg hg next
theorem relStep_dep (d : List Int) : ∀ (x : List Int) (m : Int), x.foldl (depStep d) (m + 1) = x.foldl (relStep d) m + 1
  | [], m => rfl
  | k :: x, m => by
    rw [List.foldl_cons, List.foldl_cons, ← relStep_dep d x (relStep d m k)]
    congr 1
    unfold depStep relStep mx
    split <;> split <;> omega
theorem relOf_dep (l : List NodeT) (d : List Int) (i : Nat) : relOf l d i = depOf l d i := (relStep_dep d (needs l i) 0).symm
theorem fold_same {d D : List Int} : ∀ (x : List Int) (m : Int), (∀ k ∈ x, rd d k = rd D k) → x.foldl (depStep d) m = x.foldl (depStep D) m
  | [], _, _ => rfl
  | k :: x, m, h => by
    have e : depStep d m k = depStep D m k := by unfold depStep; rw [h k (by simp)]
    rw [List.foldl_cons, List.foldl_cons, e]
    exact fold_same x _ (fun k hk => h k (List.mem_cons_of_mem _ hk))
theorem inN_mono {p s : List Nat} {k : Int} (h : inN p k = true) : inN (p ++ s) k = true := by
  obtain ⟨a, ha, e⟩ := (inN_iff p k).mp h
  exact (inN_iff _ k).mpr ⟨a, List.mem_append_left _ ha, e⟩
theorem dep_fix (l : List NodeT) : ∀ (r p : List Nat) (d : List Int), rowN l = p ++ r → d.length = l.length → (∀ i ∈ p, rd d (i : Int) = depOf l d i) → ∀ i ∈ rowN l, rd (depGo l r d) (i : Int) = depOf l (depGo l r d) i
  | [], p, d, h, _, hp => by
    rw [h, List.append_nil]
    exact hp
  | i :: r, p, d, h, hd, hp => by
    obtain ⟨hi, hc, hn⟩ := (row_all l).1 p i r h
    rw [depGo]
    have hip : i ∉ p := by simpa using hc
    have self : ∀ j, (∀ k ∈ needs l j, inN p k = true) → depOf l (d.set i (depOf l d i)) j = depOf l d j := fun j hj => fold_same _ _ fun k hk => by
      obtain ⟨a, ha, e⟩ := (inN_iff p k).mp (hj k hk)
      rw [← e]
      exact rd_set_ne d i a _ (by rintro rfl; exact hip ha)
    refine dep_fix l r (p ++ [i]) _ (by rw [h]; simp) (by rw [List.length_set]; exact hd) fun j hj => ?_
    by_cases e : j = i
    · subst e
      rw [self j hn, rd_set_eq d j _ (by omega)]
    · have hjp := (List.mem_append.mp hj).resolve_right (by simpa using e)
      obtain ⟨p1, p2, ep⟩ := List.append_of_mem hjp
      have hpl := ((row_all l).1 p1 j (p2 ++ i :: r) (by rw [h, ep]; simp)).2.2
      rw [self j (fun k hk => by rw [ep]; exact inN_mono (hpl k hk)), rd_set_ne d i j _ (fun e2 => e e2.symm)]
      exact hp j hjp
theorem depS_fix (l : List NodeT) : ∀ i ∈ rowN l, rd (depS l) (i : Int) = depOf l (depS l) i :=
  dep_fix l (rowN l) [] _ rfl (by simp) (fun i hi => by simp at hi)
/-- The first nodes of the order stand right. -/
def GoodS (l : List NodeT) (q : Nat) (d : List Int) : Prop := ∀ v ∈ (rowN l).take q, rd d (v : Int) = rd (depS l) (v : Int)
theorem good_of {l : List NodeT} {q : Nat} {d : List Int} (h : GoodS l q d) {j : Nat} (hj : j ∈ (rowN l).take (q + 1)) : relOf l d j = rd (depS l) (j : Int) := by
  rw [relOf_dep, depS_fix l j (List.mem_of_mem_take hj)]
  obtain ⟨p, s, e⟩ := List.append_of_mem hj
  have er : rowN l = p ++ j :: (s ++ (rowN l).drop (q + 1)) := by
    have := List.take_append_drop (q + 1) (rowN l)
    rw [e, List.append_assoc, List.cons_append] at this
    exact this.symm
  have hpl : p.length ≤ q := by
    have := congrArg List.length e
    rw [List.length_take, List.length_append, List.length_cons] at this
    omega
  have hpt : p = (rowN l).take p.length := by rw [er]; simp
  refine fold_same _ _ fun k hk => ?_
  obtain ⟨a, ha, e2⟩ := (inN_iff p k).mp (((row_all l).1 p j _ er).2.2 k hk)
  rw [← e2]
  refine h a ?_
  rw [hpt, show (rowN l).take p.length = ((rowN l).take q).take p.length by rw [List.take_take, Nat.min_eq_left hpl]] at ha
  exact List.mem_of_mem_take ha
theorem rel_row (l : List NodeT) (q : Nat) : ∀ (e i : Nat) (d : List Int), i + e = l.length → d.length = l.length → GoodS l q d → (∀ v ∈ (rowN l).take (q + 1), v < i → rd d (v : Int) = rd (depS l) (v : Int)) →
    GoodS l (q + 1) (relRow l e i d) ∧ (relRow l e i d).length = l.length
  | 0, i, d, h, hd, hg, hv => ⟨fun v hvm => hv v hvm (by
      have := row_lt l v (List.mem_of_mem_take hvm)
      omega), hd⟩
  | e + 1, i, d, h, hd, hg, hv => by
    have up : ∀ v ∈ (rowN l).take q, v ∈ (rowN l).take (q + 1) := fun v hv => by
      rw [show (rowN l).take q = ((rowN l).take (q + 1)).take q by rw [List.take_take, Nat.min_eq_left (Nat.le_succ q)]] at hv
      exact List.mem_of_mem_take hv
    rw [relRow]
    refine rel_row l q e (i + 1) _ (by omega) (by rw [List.length_set]; exact hd) (fun v hvm => ?_) (fun v hvm hlt => ?_)
    · by_cases ev : v = i
      · subst ev
        rw [rd_set_eq d v _ (by omega), good_of hg (up v hvm)]
      · rw [rd_set_ne d i v _ (fun e2 => ev e2.symm)]
        exact hg v hvm
    · by_cases ev : v = i
      · subst ev
        rw [rd_set_eq d v _ (by omega), good_of hg hvm]
      · rw [rd_set_ne d i v _ (fun e2 => ev e2.symm)]
        exact hv v hvm (by omega)
theorem rel_go (l : List NodeT) : ∀ (f q : Nat) (d : List Int), d.length = l.length → GoodS l q d → GoodS l (q + f) (relGo l f d) ∧ (relGo l f d).length = l.length
  | 0, q, d, hd, hg => ⟨hg, hd⟩
  | f + 1, q, d, hd, hg => by
    obtain ⟨h1, h2⟩ := rel_row l q l.length 0 d (by omega) hd hg (fun v _ h => absurd h (Nat.not_lt_zero v))
    rw [relGo, show q + (f + 1) = q + 1 + f by omega]
    exact rel_go l f (q + 1) _ h2 h1
theorem depGo_len (l : List NodeT) : ∀ (r : List Nat) (d : List Int), (depGo l r d).length = d.length
  | [], d => rfl
  | i :: r, d => by rw [depGo, depGo_len l r, List.length_set]
theorem rel_all (l : List NodeT) (hs : shapeS l = true) (hrl : (rowN l).length = l.length) : relGo l l.length (List.replicate l.length 0) = depS l := by
  obtain ⟨h1, h2⟩ := rel_go l l.length 0 (List.replicate l.length 0) (by simp) (fun v hv => by simp at hv)
  have hD : (depS l).length = l.length := by unfold depS; rw [depGo_len]; simp
  refine List.ext_getElem (by rw [h2, hD]) fun i hi1 hi2 => ?_
  have := h1 i (by
    rw [List.take_of_length_le (by omega)]
    have := row_full hrl i (by omega)
    simpa using this)
  rw [rd_int _ i hi1, rd_int _ i hi2] at this
  exact this
theorem relOf_le (l : List NodeT) (hs : shapeS l = true) (i : Nat) (hi : i < l.length) (d : List Int) (c : Nat) (hb : ∀ v : Nat, 0 ≤ rd d v ∧ rd d v ≤ c) : 0 ≤ relOf l d i ∧ relOf l d i ≤ ((c + 1 : Nat) : Int) := by
  have hn := shape_needs l hs i hi
  have key : ∀ (x : List Int) (m : Int), (∀ k ∈ x, 0 ≤ rd d k ∧ rd d k ≤ c) → 0 ≤ m ∧ m ≤ (c : Int) → 0 ≤ x.foldl (relStep d) m ∧ x.foldl (relStep d) m ≤ (c : Int) := by
    intro x
    induction x with
    | nil => intro m _ h; exact h
    | cons k x ih => intro m h hm; exact ih _ (fun k hk => h k (List.mem_cons_of_mem _ hk)) (relStep_le (h k (by simp)) hm)
  have := key (needs l i) 0 (fun k hk => by
    obtain ⟨v, rfl⟩ := Int.eq_ofNat_of_zero_le (hn k hk).1
    exact hb v) ⟨Int.le_refl 0, by omega⟩
  unfold relOf
  omega
theorem relSet_le (l : List NodeT) (hs : shapeS l = true) (i : Nat) (hi : i < l.length) (d : List Int) (hd : d.length = l.length) (c : Nat) (hb : ∀ v : Nat, 0 ≤ rd d v ∧ rd d v ≤ c) : ∀ v : Nat, 0 ≤ rd (d.set i (relOf l d i)) v ∧ rd (d.set i (relOf l d i)) v ≤ ((c + 1 : Nat) : Int) := by
  intro v
  by_cases e : i = v
  · subst e
    rw [rd_set_eq d i _ (by omega)]
    exact relOf_le l hs i hi d c hb
  · rw [rd_set_ne d i v _ e]
    have := hb v
    omega
theorem relRow_le (l : List NodeT) (hs : shapeS l = true) : ∀ (q i : Nat) (d : List Int) (c : Nat), i + q = l.length → d.length = l.length → (∀ v : Nat, 0 ≤ rd d v ∧ rd d v ≤ c) → (∀ v : Nat, 0 ≤ rd (relRow l q i d) v ∧ rd (relRow l q i d) v ≤ ((c + q : Nat) : Int)) ∧ (relRow l q i d).length = l.length
  | 0, i, d, c, h, hd, hb => ⟨hb, hd⟩
  | q + 1, i, d, c, h, hd, hb => by
    rw [relRow, show c + (q + 1) = c + 1 + q by omega]
    exact relRow_le l hs q (i + 1) _ (c + 1) (by omega) (by rw [List.length_set]; exact hd) (relSet_le l hs i (by omega) d hd c hb)
theorem refDepth_l1 (l : List NodeT) (hs : shapeS l = true) (h12 : l.length ≤ 12) (x5 : Int) (r : List Int × Int) : ∀ (q i : Nat) (d : List Int) (c : Nat), i + q = l.length → d.length = l.length → (∀ v : Nat, 0 ≤ rd d v ∧ rd d v ≤ c) → c + q ≤ 1000 →
    Ev (fun k => millhandref23_Depth.l0 k (relRow l q i d) (wrap64 (x5 + 1)) l) r → Ev (fun k => millhandref23_Depth.l1 k d x5 (i : Int) l) r
  | 0, i, d, c, h, hd, hb, hc, hr => Ev.step (fun _ => millhandref23_Depth.l1.eq_2 ..) (ev_neg (by omega) hr)
  | q + 1, i, d, c, h, hd, hb, hc, hr => by
    have hi : i < l.length := by omega
    have next := refDepth_l1 l hs h12 x5 r q (i + 1) (d.set i (relOf l d i)) (c + 1) (by omega) (by rw [List.length_set]; exact hd) (relSet_le l hs i hi d hd c hb) (by omega) hr
    have e2 : wrap64 ((i : Int) + 1) = ((i + 1 : Nat) : Int) := by rw [w64 (by omega) (by omega)]; omega
    rw [← e2] at next
    refine Ev.step (fun _ => millhandref23_Depth.l1.eq_2 ..) (ev_pos (by omega) ?_)
    have := refDepth_l2 l hs h12 i hi d hd c (by omega) hb x5 r next l[i].f0.length 0 0 (by omega) ⟨Int.le_refl 0, by omega⟩ (by rw [List.drop_zero, relOf, needs_at l i hi])
    exact this
theorem refDepth_l0 (l : List NodeT) (hs : shapeS l = true) (h12 : l.length ≤ 12) : ∀ (f t : Nat) (d : List Int) (c : Nat), t + f = l.length → d.length = l.length → (∀ v : Nat, 0 ≤ rd d v ∧ rd d v ≤ c) → c + 12 * f ≤ 500 →
    Ev (fun k => millhandref23_Depth.l0 k d (t : Int) l) (relGo l f d, 0)
  | 0, t, d, c, h, hd, hb, hc => Ev.step (fun _ => millhandref23_Depth.l0.eq_2 ..) (ev_neg (by omega) (Ev.now _))
  | f + 1, t, d, c, h, hd, hb, hc => by
    obtain ⟨hb2, hd2⟩ := relRow_le l hs l.length 0 d c (by omega) hd hb
    have next := refDepth_l0 l hs h12 f (t + 1) (relRow l l.length 0 d) (c + l.length) (by omega) hd2 hb2 (by omega)
    have e2 : wrap64 ((t : Int) + 1) = ((t + 1 : Nat) : Int) := by rw [w64 (by omega) (by omega)]; omega
    rw [← e2] at next
    refine Ev.step (fun _ => millhandref23_Depth.l0.eq_2 ..) (ev_pos (by omega) ?_)
    exact refDepth_l1 l hs h12 (t : Int) _ l.length 0 d c (by omega) hd hb (by omega) next
theorem refDepth_ev (l : List NodeT) (hf : fitS l) : Ev (fun k => millhandref23_Depth.f k l) (depthS l) := by
  unfold millhandref23_Depth.f depthS checkS
  have hfl := hf.1
  refine Ev.bind (ref_May_ev l hf) ?_
  cases h : mayS l with
  | true =>
    have hp := may_parts h
    refine ev_pos rfl (ev_pos (by omega) (ev_pos (by omega) ?_))
    rw [Int.toNat_natCast]
    have := refDepth_l0 l hp.2.2.1 hp.2.1 l.length 0 (List.replicate l.length 0) 0 (by omega) (by simp) (fun v => by
      unfold rd
      rw [List.getD_eq_getElem?_getD, List.getElem?_replicate]
      split <;> simp) (by omega)
    rw [rel_all l hp.2.2.1 hp.2.2.2] at this
    exact this
  | false => exact ev_neg (by decide) (Ev.now _)
end Go.Proofs.Ytoplhlacdjlidaa.R

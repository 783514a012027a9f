/- Runs in plain words: which may be. -/
import Derived.Test.YtbiphljdommacaaRx17
import Derived.Test.YtbiphljdommacaaRx31
import Derived.Test.YtbiphljdommacaaRx19
import Derived.Test.YtbiphljdommacaaRx13
import Derived.Test.YtbiphljdommacaaRx25
import Derived.Test.YtbiphljdommacaaRx9
import Derived.Test.YtbiphljdommacaaRx11
import Derived.Test.YtbiphljdommacaaRx15
import Derived.Test.YtbiphljdommacaaRx23
import Derived.Test.YtbiphljdommacaaRx24
import Derived.Test.YtbiphljdommacaaRx30
import Derived.Test.YtbiphljdommacaaRx28
import Derived.Test.YtbiphljdommacaaRx29
import Derived.Test.YtbiphljdommacaaRDM
import Derived.Test.YtbiphljdommacaaRTK
namespace Go.Proofs.Ytbiphljdommacaa.R
open Go.RowKit Go.Proofs.YtbiphljdommacaaW.PrintWords Go.Proofs.YtbiphljdommacaaW.PrintLast Go.Proofs.YtbiphljdommacaaW.PrintMore Go.Proofs.Ytbiphljdommacaa.Plain
set_option linter.unusedVariables false
set_option linter.unusedSimpArgs false
theorem shaped_l0 (i many : Int) (x : List Int) (hx : x.length ≤ 100000000000000) : ∀ (d j : Nat) (last : Int), j + d = x.length → Ev (fun k => dag_shaped.l0 k i many last x (x.length : Int) (j : Int)) (needsOk i many last (x.drop j))
  | 0, j, last, h => by
    rw [List.drop_eq_nil_of_le (by omega)]
    exact Ev.step (fun _ => dag_shaped.l0.eq_2 ..) (ev_neg (by omega) (Ev.now _))
  | d + 1, j, last, h => by
    have hj : j < x.length := by omega
    refine Ev.step (fun _ => dag_shaped.l0.eq_2 ..) (ev_pos (by omega) (ev_pos (by omega) (ev_pos (by omega) ?_)))
    rw [rd_int x j hj, List.drop_eq_getElem_cons hj, needsOk]
    by_cases h1 : x[j] ≤ last
    · rw [decide_eq_false (show ¬ last < x[j] by omega), Bool.false_and]
      exact ev_pos h1 (Ev.now _)
    · rw [decide_eq_true (show last < x[j] by omega), Bool.true_and]
      refine ev_neg h1 ?_
      by_cases h2 : x[j] ≥ many
      · rw [decide_eq_false (show ¬ x[j] < many by omega), Bool.false_and]
        exact ev_pos h2 (Ev.now _)
      · rw [decide_eq_true (show x[j] < many by omega), Bool.true_and]
        refine ev_neg h2 ?_
        by_cases h3 : x[j] = i
        · rw [decide_eq_false (show ¬ x[j] ≠ i from fun e => e h3), Bool.false_and]
          exact ev_pos h3 (Ev.now _)
        · rw [decide_eq_true (show x[j] ≠ i from h3), Bool.true_and]
          refine ev_neg h3 ?_
          rw [w64 (by omega) (by omega), show (j : Int) + 1 = ((j + 1 : Nat) : Int) by omega]
          exact shaped_l0 i many x hx d (j + 1) x[j] (by omega)
theorem shaped_ev (i many : Int) (x : NodeT) (hx : x.f0.length ≤ 100000000000000) : Ev (fun k => dag_shaped.f k i many x.f0 x.f1 x.f2) (nodeOk i many x) := by
  unfold dag_shaped.f nodeOk
  have bad : boundsOk x = false → Ev (fun k => dag_shaped.j0 k i many true x.f0 x.f1 x.f2) (boundsOk x && needsOk i many (-1) x.f0) := by
    intro h
    rw [h, Bool.false_and]
    exact Ev.step (fun _ => dag_shaped.j0.eq_2 ..) (ev_pos rfl (Ev.now _))
  by_cases h1 : x.f1 < 1
  · exact ev_pos h1 (bad (decide_eq_false (by omega)))
  · refine ev_neg h1 ?_
    by_cases h2 : x.f1 > 5
    · exact ev_pos h2 (bad (decide_eq_false (by omega)))
    · refine ev_neg h2 ?_
      by_cases h3 : x.f2 < 0
      · exact ev_pos h3 (bad (decide_eq_false (by omega)))
      · refine ev_neg h3 ?_
        by_cases h4 : x.f2 > 1048576
        · rw [decide_eq_true h4]
          exact bad (decide_eq_false (by omega))
        · rw [decide_eq_false h4, show boundsOk x = true from decide_eq_true (by omega), Bool.true_and]
          have := shaped_l0 i many x.f0 hx x.f0.length 0 (-1) (by omega)
          exact Ev.step (fun _ => dag_shaped.j0.eq_2 ..) (ev_neg (by decide) this)
/-! ### which specs may be -/
theorem dcheck_l0 (l : List NodeT) (hf : fitS l) (hm : manyOk l = true) : ∀ (d i : Nat), i + d = l.length → (shapeFrom (l.length : Int) i (l.drop i) = shapeS l) → Ev (fun k => dag_Check.l0 k (l.length : Int) l (l.length : Int) (i : Int)) (checkS l)
  | 0, i, h, h1 => by
    have hs : shapeS l = true := by rw [← h1, List.drop_eq_nil_of_le (by omega)]; rfl
    refine Ev.step (fun _ => dag_Check.l0.eq_2 ..) (ev_neg (by omega) (ev_pos (by rw [hm, hs]; rfl) (ev_some ?_)))
    unfold checkS mayS
    rw [hm, hs]
    cases cycS l <;> rfl
  | d + 1, i, h, h1 => by
    have hfl := hf.1
    have hi : i < l.length := by omega
    rw [List.drop_eq_getElem_cons hi, shapeFrom] at h1
    refine Ev.step (fun _ => dag_Check.l0.eq_2 ..) (ev_pos (by omega) (ev_pos (by omega) (ev_pos (by omega) ?_)))
    rw [rd_node l i hi]
    refine Ev.bind (shaped_ev (i : Int) (l.length : Int) l[i] (hf.2 _ (List.getElem_mem hi))) ?_
    cases hb : nodeOk (i : Int) (l.length : Int) l[i] with
    | false =>
      have hs : shapeS l = false := by rw [← h1, hb]; rfl
      refine ev_neg (by decide) (ev_some ?_)
      unfold checkS mayS
      rw [hs, Bool.false_and, Bool.and_false]
      rfl
    | true =>
      rw [hb, Bool.true_and] at h1
      refine ev_pos rfl ?_
      rw [w64 (by omega) (by omega), show (i : Int) + 1 = ((i + 1 : Nat) : Int) by omega]
      exact dcheck_l0 l hf hm d (i + 1) (by omega) h1
theorem dcheck_ev (l : List NodeT) (hf : fitS l) : Ev (fun k => dag_Check.f k l) (checkS l) := by
  unfold dag_Check.f
  have bad : manyOk l = false → Ev (fun k => dag_Check.j0 k (l.length : Int) true l) (checkS l) := by
    intro h
    unfold checkS mayS
    rw [h, Bool.false_and]
    exact Ev.step (fun _ => dag_Check.j0.eq_2 ..) (ev_pos rfl (Ev.now _))
  by_cases h1 : (l.length : Int) < 1
  · exact ev_pos h1 (bad (decide_eq_false (by omega)))
  · refine ev_neg h1 ?_
    by_cases h2 : (l.length : Int) > 12
    · rw [decide_eq_true h2]
      exact bad (decide_eq_false (by omega))
    · rw [decide_eq_false h2]
      have hm : manyOk l = true := decide_eq_true (by omega)
      have := dcheck_l0 l hf hm l.length 0 (by omega) rfl
      exact Ev.step (fun _ => dag_Check.j0.eq_2 ..) (ev_neg (by decide) this)
theorem check_zero (l : List NodeT) : checkS l = 0 ↔ mayS l = true := by
  unfold checkS
  cases mayS l <;> simp

/-! ### runs in plain words -/
abbrev TaskT := S35
theorem rd_task (l : List TaskT) (i : Nat) (h : i < l.length) : rd_T35 l (i : Int) = l[i] := by simp [rd_T35, List.getD_eq_getElem?_getD, List.getElem?_eq_getElem h]
theorem rd_num (l : List Int) (i : Nat) (h : i < l.length) : rd l (i : Int) = l[i] := by simp [rd, List.getD_eq_getElem?_getD, List.getElem?_eq_getElem h]
/-! #### is a number among some? -/
def findN (a : Int) : Nat → List Int → Int
  | _, [] => -1
  | i, x :: r => if a = x then (i : Int) else findN a (i + 1) r
theorem findN_ge (a : Int) : ∀ (l : List Int) (i : Nat), decide (findN a i l ≥ 0) = l.contains a
  | [], i => by simp [findN]
  | x :: r, i => by
    unfold findN
    by_cases h : a = x
    · rw [if_pos h]; simp [h] <;> omega
    · rw [if_neg h, findN_ge a r (i + 1), List.contains_cons, beq_false_of_ne h, Bool.false_or]
theorem idx_l0 (a : Int) (l : List Int) (hl : l.length ≤ 1000) : ∀ (d i : Nat), i + d = l.length → Ev (fun k => slices_Index_uint8_uint8.l0 k l a (l.length : Int) (i : Int)) (findN a i (l.drop i))
  | 0, i, h => by
    rw [List.drop_of_length_le (by omega)]
    exact Ev.step (fun _ => slices_Index_uint8_uint8.l0.eq_2 ..) (ev_neg (by omega) (Ev.now _))
  | d + 1, i, h => by
    have hi : i < l.length := by omega
    refine Ev.step (fun _ => slices_Index_uint8_uint8.l0.eq_2 ..) (ev_pos (by omega) (ev_pos (by omega) (ev_pos (by omega) ?_)))
    rw [rd_num l i hi, List.drop_eq_getElem_cons hi, findN]
    refine ev_ite (fun _ => Ev.now _) (fun _ => ?_)
    rw [w64 (by omega) (by omega)]
    exact idx_l0 a l hl d (i + 1) (by omega)
theorem state_ev (s tr un tk rk : Int) (l : List Int) (hl : l.length ≤ 1000) : Ev (fun k => run_state.f k s tr un tk rk l) (l.contains s) := by
  unfold run_state.f slices_Contains_uint8_uint8.f slices_Index_uint8_uint8.f
  refine Ev.bind (Ev.bind (idx_l0 s l hl l.length 0 (by omega)) (Ev.now _)) (ev_some ?_)
  rw [List.drop_zero]
  exact findN_ge s l 0
theorem all1_ev (s tr un tk rk : Int) (l : List Int) (hl : l.length ≤ 1000) : Ev (fun k => run_all_1.f k s tr un tk rk l) (!(l.contains s)) := by
  unfold run_all_1.f
  exact Ev.bind (state_ev s tr un tk rk l hl) (Ev.now _)
theorem some1_ev (s tr un tk rk : Int) (l : List Int) (hl : l.length ≤ 1000) : Ev (fun k => run_some_1.f k s tr un tk rk l) (l.contains s) := by
  unfold run_some_1.f
  exact Ev.bind (state_ev s tr un tk rk l hl) (Ev.now _)
/-! #### has a list one that fits? -/
def firstT {α : Type} (p : α → Bool) : Nat → List α → Int
  | _, [] => -1
  | i, x :: r => if p x = true then (i : Int) else firstT p (i + 1) r
theorem firstT_ge {α : Type} (p : α → Bool) : ∀ (l : List α) (i : Nat), decide (firstT p i l ≥ 0) = l.any p
  | [], i => by simp [firstT]
  | x :: r, i => by
    unfold firstT
    rw [List.any_cons]
    by_cases h : p x = true
    · rw [if_pos h, h]; simp <;> omega
    · rw [if_neg h, firstT_ge p r (i + 1), Bool.eq_false_iff.mpr h, Bool.false_or]
theorem idxT_l0 (D : Nat → Int → Int → Int → Int → Int → Option Bool) (p : TaskT → Bool) (hD : ∀ t : TaskT, Ev (fun k => D k t.f0 t.f1 t.f2 t.f3 t.f4) (p t)) (l : List TaskT) (x : List Int) (hl : l.length ≤ 100000) : ∀ (d i : Nat), i + d = l.length →
    Ev (fun k => slices_IndexFunc_api_Task.l0 D k l x (l.length : Int) (i : Int)) (firstT p i (l.drop i))
  | 0, i, h => by
    rw [List.drop_of_length_le (by omega)]
    exact Ev.step (fun _ => slices_IndexFunc_api_Task.l0.eq_2 ..) (ev_neg (by omega) (Ev.now _))
  | d + 1, i, h => by
    have hi : i < l.length := by omega
    refine Ev.step (fun _ => slices_IndexFunc_api_Task.l0.eq_2 ..) (ev_pos (by omega) (ev_pos (by omega) (ev_pos (by omega) ?_)))
    rw [rd_task l i hi, List.drop_eq_getElem_cons hi, firstT]
    refine Ev.bind (hD l[i]) (ev_ite (fun _ => Ev.now _) (fun _ => ?_))
    rw [w64 (by omega) (by omega)]
    exact idxT_l0 D p hD l x hl d (i + 1) (by omega)
theorem hasT_ev (D : Nat → Int → Int → Int → Int → Int → Option Bool) (p : TaskT → Bool) (hD : ∀ t : TaskT, Ev (fun k => D k t.f0 t.f1 t.f2 t.f3 t.f4) (p t)) (l : List TaskT) (x : List Int) (hl : l.length ≤ 100000) : Ev (fun k => slices_ContainsFunc_api_Task.f D k l x) (l.any p) := by
  unfold slices_ContainsFunc_api_Task.f slices_IndexFunc_api_Task.f
  refine Ev.bind (idxT_l0 D p hD l x hl l.length 0 (by omega)) (ev_some ?_)
  rw [List.drop_zero]
  exact firstT_ge p l 0
def allS (ts : List TaskT) (l : List Int) : Bool := ts.all fun t => l.contains t.f0
def someS (ts : List TaskT) (l : List Int) : Bool := ts.any fun t => l.contains t.f0
theorem all_ev (id : Int) (key : ByteArray) (ns : List NodeT) (st : Int) (ts : List TaskT) (l : List Int) (hl : l.length ≤ 1000) (ht : ts.length ≤ 100000) : Ev (fun k => run_all.f k id key ns st ts l) (allS ts l) := by
  unfold run_all.f
  refine Ev.bind (hasT_ev _ (fun t => !(l.contains t.f0)) (fun t => all1_ev _ _ _ _ _ l hl) ts l ht) (ev_some ?_)
  unfold allS
  rw [← List.not_all_eq_any_not, Bool.not_not]
theorem some_ev (id : Int) (key : ByteArray) (ns : List NodeT) (st : Int) (ts : List TaskT) (l : List Int) (hl : l.length ≤ 1000) (ht : ts.length ≤ 100000) : Ev (fun k => run_some.f k id key ns st ts l) (someS ts l) := by
  unfold run_some.f
  exact Ev.bind (hasT_ev _ (fun t => l.contains t.f0) (fun t => some1_ev _ _ _ _ _ l hl) ts l ht) (Ev.now _)
/-! #### is all that a node needs done? -/
def stateN (ts : List TaskT) (k : Int) : Int := (rd_T35 ts k).f0
theorem idxM_l0 (ts : List TaskT) (l : List Int) (hl : l.length ≤ 100000) (hr : ∀ k ∈ l, 0 ≤ k ∧ k < (ts.length : Int)) : ∀ (d i : Nat), i + d = l.length →
    Ev (fun k => slices_IndexFunc_int_int.l0 k l ts (l.length : Int) (i : Int)) (firstT (fun k => stateN ts k != 4) i (l.drop i))
  | 0, i, h => by
    rw [List.drop_of_length_le (by omega)]
    exact Ev.step (fun _ => slices_IndexFunc_int_int.l0.eq_2 ..) (ev_neg (by omega) (Ev.now _))
  | d + 1, i, h => by
    have hi : i < l.length := by omega
    have hk := hr l[i] (List.getElem_mem hi)
    refine Ev.step (fun _ => slices_IndexFunc_int_int.l0.eq_2 ..) (ev_pos (by omega) (ev_pos (by omega) (ev_pos (by omega) ?_)))
    rw [rd_num l i hi, List.drop_eq_getElem_cons hi, firstT]
    have hm : Ev (fun _ => run_met_1.f l[i] ts) (stateN ts l[i] != 4) := by
      unfold run_met_1.f
      exact ev_pos hk.1 (ev_pos hk.2 (Ev.now _))
    refine Ev.bind hm (ev_ite (fun _ => Ev.now _) (fun _ => ?_))
    rw [w64 (by omega) (by omega)]
    exact idxM_l0 ts l hl hr d (i + 1) (by omega)
def metS (ts : List TaskT) (l : List Int) : Bool := l.all fun k => stateN ts k == 4
theorem met_ev (id : Int) (key : ByteArray) (ns : List NodeT) (st : Int) (ts : List TaskT) (l : List Int) (a b : Int) (hl : l.length ≤ 100000) (hr : ∀ k ∈ l, 0 ≤ k ∧ k < (ts.length : Int)) : Ev (fun k => run_met.f k id key ns st ts l a b) (metS ts l) := by
  unfold run_met.f slices_ContainsFunc_int_int.f slices_IndexFunc_int_int.f
  refine Ev.bind (Ev.bind (idxM_l0 ts l hl hr l.length 0 (by omega)) (Ev.now _)) (ev_some ?_)
  rw [List.drop_zero, firstT_ge]
  unfold metS
  rw [show (fun k => stateN ts k == 4) = (fun k => !(stateN ts k != 4)) from funext fun k => by simp [bne], ← List.not_any_eq_all_not]
/-! #### may a run stand so? -/
def goesOk (ts : List TaskT) : Nat → List NodeT → Bool
  | _, [] => true
  | i, x :: r => !(metS ts x.f0 == (stateN ts (i : Int) == 0)) && goesOk ts (i + 1) r
def standsS (ns : List NodeT) (st : Int) (ts : List TaskT) : Bool :=
  if st = 1 then goesOk ts 0 ns && (!(allS ts [4]) && !(someS ts [5, 6])) else if st = 2 then allS ts [4] else if st = 3 then someS ts [5] && allS ts [4, 5, 6] else if st = 4 then someS ts [6] && allS ts [4, 6] else false
theorem stands_l0 (id : Int) (key : ByteArray) (ns : List NodeT) (st : Int) (ts : List TaskT) (hn : ns.length ≤ 1000) (he : ts.length = ns.length) (hf : ∀ x ∈ ns, x.f0.length ≤ 100000) (hr : ∀ x ∈ ns, ∀ k ∈ x.f0, 0 ≤ k ∧ k < (ns.length : Int)) : ∀ (d i : Nat), i + d = ns.length →
    Ev (fun k => run_stands.l0 k ns (ns.length : Int) (i : Int) id key ns st ts) (goesOk ts i (ns.drop i) && (!(allS ts [4]) && !(someS ts [5, 6])))
  | 0, i, h => by
    rw [List.drop_of_length_le (by omega), goesOk, Bool.true_and]
    refine Ev.step (fun _ => run_stands.l0.eq_2 ..) (ev_neg (by omega) (Ev.bind (all_ev id key ns st ts [4] (by simp) (by omega)) ?_))
    cases allS ts [4] with
    | true => exact ev_pos rfl (Ev.now _)
    | false => exact ev_neg (by decide) (Ev.bind (some_ev id key ns st ts [5, 6] (by simp) (by omega)) (Ev.now _))
  | d + 1, i, h => by
    have hi : i < ns.length := by omega
    have hm := List.getElem_mem hi
    refine Ev.step (fun _ => run_stands.l0.eq_2 ..) (ev_pos (by omega) (ev_pos (by omega) (ev_pos (by omega) ?_)))
    rw [rd_node ns i hi, List.drop_eq_getElem_cons hi, goesOk]
    refine Ev.bind (met_ev id key ns st ts ns[i].f0 ns[i].f1 ns[i].f2 (hf _ hm) (by rw [he]; exact hr _ hm)) (ev_pos (by omega) ?_)
    show Ev (fun k => if (metS ts ns[i].f0 == (stateN ts (i : Int) == 0)) = true then _ else _) _
    cases metS ts ns[i].f0 == (stateN ts (i : Int) == 0) with
    | true => exact ev_pos rfl (Ev.now _)
    | false =>
      refine ev_neg (by decide) ?_
      rw [w64 (by omega) (by omega), Bool.not_false, Bool.true_and]
      exact stands_l0 id key ns st ts hn he hf hr d (i + 1) (by omega)
theorem stands_ev (id : Int) (key : ByteArray) (ns : List NodeT) (st : Int) (ts : List TaskT) (hn : ns.length ≤ 1000) (he : ts.length = ns.length) (hf : ∀ x ∈ ns, x.f0.length ≤ 100000) (hr : ∀ x ∈ ns, ∀ k ∈ x.f0, 0 ≤ k ∧ k < (ns.length : Int)) :
    Ev (fun k => run_stands.f k id key ns st ts) (standsS ns st ts) := by
  have ht : ts.length ≤ 100000 := by omega
  unfold run_stands.f standsS
  refine ev_ite (fun _ => ?_) (fun _ => ev_ite (fun _ => ?_) (fun _ => ev_ite (fun _ => ?_) (fun _ => ev_ite (fun _ => ?_) (fun _ => Ev.now _))))
  · exact stands_l0 id key ns st ts hn he hf hr ns.length 0 (by omega)
  · exact Ev.bind (all_ev id key ns st ts [4] (by simp) ht) (Ev.now _)
  · refine Ev.bind (some_ev id key ns st ts [5] (by simp) ht) ?_
    cases someS ts [5] with
    | true => exact ev_pos rfl (Ev.bind (all_ev id key ns st ts [4, 5, 6] (by simp) ht) (Ev.now _))
    | false => exact ev_neg (by decide) (Ev.now _)
  · refine Ev.bind (some_ev id key ns st ts [6] (by simp) ht) ?_
    cases someS ts [6] with
    | true => exact ev_pos rfl (Ev.bind (all_ev id key ns st ts [4, 6] (by simp) ht) (Ev.now _))
    | false => exact ev_neg (by decide) (Ev.now _)
def taskOk (x : NodeT) (t : TaskT) : Bool := okS x.f1 x.f2 t.f0 t.f1 t.f2 t.f3 t.f4
def tasksOk (ts : List TaskT) : Nat → List NodeT → Bool
  | _, [] => true
  | i, x :: r => taskOk x (rd_T35 ts (i : Int)) && tasksOk ts (i + 1) r
def mayRun (id : Int) (key : ByteArray) (ns : List NodeT) (st : Int) (ts : List TaskT) : Bool :=
  decide (0 ≤ id ∧ id ≤ 1099511627776 ∧ 1 ≤ key.size ∧ key.size ≤ 24) && (mayS ns && (decide (ts.length = ns.length) && (tasksOk ts 0 ns && standsS ns st ts)))
def chkRun (id : Int) (key : ByteArray) (ns : List NodeT) (st : Int) (ts : List TaskT) : Int := if mayRun id key ns st ts = true then 0 else 8
theorem rchk_l0 (id : Int) (key : ByteArray) (ns : List NodeT) (st : Int) (ts : List TaskT) (hn : ns.length ≤ 1000) (he : ts.length = ns.length) (hf : ∀ x ∈ ns, x.f0.length ≤ 100000) (hr : ∀ x ∈ ns, ∀ k ∈ x.f0, 0 ≤ k ∧ k < (ns.length : Int)) : ∀ (d i : Nat), i + d = ns.length →
    Ev (fun k => run_Check.l0 k ns (ns.length : Int) (i : Int) id key ns st ts) (if (tasksOk ts i (ns.drop i) && standsS ns st ts) = true then 0 else 8)
  | 0, i, h => by
    rw [List.drop_of_length_le (by omega), tasksOk, Bool.true_and]
    exact Ev.step (fun _ => run_Check.l0.eq_2 ..) (ev_neg (by omega) (Ev.bind (stands_ev id key ns st ts hn he hf hr) (ev_ite (fun _ => Ev.now _) (fun _ => Ev.now _))))
  | d + 1, i, h => by
    have hi : i < ns.length := by omega
    refine Ev.step (fun _ => run_Check.l0.eq_2 ..) (ev_pos (by omega) (ev_pos (by omega) (ev_pos (by omega) (ev_pos (by omega) ?_))))
    rw [rd_node ns i hi, List.drop_eq_getElem_cons hi, tasksOk]
    refine Ev.bind (check_ev ns[i].f0 ns[i].f1 ns[i].f2 _ _ _ _ _) ?_
    show Ev (fun k => if (if taskOk ns[i] (rd_T35 ts (i : Int)) = true then (0 : Int) else 8) = 0 then _ else _) _
    cases taskOk ns[i] (rd_T35 ts (i : Int)) with
    | true =>
      refine ev_pos rfl ?_
      rw [w64 (by omega) (by omega), Bool.true_and]
      exact rchk_l0 id key ns st ts hn he hf hr d (i + 1) (by omega)
    | false => exact ev_neg (by decide) (Ev.now _)
theorem may_needs {ns : List NodeT} (h : mayS ns = true) : ns.length ≤ 12 ∧ 1 ≤ ns.length ∧ ∀ x ∈ ns, ∀ k ∈ x.f0, 0 ≤ k ∧ k < (ns.length : Int) := by
  unfold mayS at h
  rw [Bool.and_eq_true, Bool.and_eq_true] at h
  have hm := of_decide_eq_true h.1
  refine ⟨hm.2, hm.1, fun x hx k hk => ?_⟩
  obtain ⟨i, hi, rfl⟩ := List.getElem_of_mem hx
  have := shape_needs ns h.2.1 i hi k (by rw [needs_at ns i hi]; exact hk)
  exact ⟨this.1, this.2.1⟩
theorem rchk_ev (id : Int) (key : ByteArray) (ns : List NodeT) (st : Int) (ts : List TaskT) (hf : fitS ns) (hx : ∀ x ∈ ns, x.f0.length ≤ 100000) : Ev (fun k => run_Check.f k id key ns st ts) (chkRun id key ns st ts) := by
  have bad : mayRun id key ns st ts = false → Ev (fun k => run_Check.j0 k true id key ns st ts) (chkRun id key ns st ts) := by
    intro h
    unfold chkRun
    rw [h]
    exact Ev.step (fun _ => run_Check.j0.eq_2 ..) (ev_pos rfl (Ev.now _))
  have no : ¬ (0 ≤ id ∧ id ≤ 1099511627776 ∧ 1 ≤ key.size ∧ key.size ≤ 24) → mayRun id key ns st ts = false := by
    intro h
    unfold mayRun
    rw [decide_eq_false h, Bool.false_and]
  unfold run_Check.f
  by_cases h1 : id < 0
  · exact ev_pos h1 (bad (no (by omega)))
  by_cases h2 : id > 1099511627776
  · exact ev_neg h1 (ev_pos h2 (bad (no (by omega))))
  by_cases h3 : (key.size : Int) < 1
  · exact ev_neg h1 (ev_neg h2 (ev_pos h3 (bad (no (by omega)))))
  by_cases h4 : (key.size : Int) > 24
  · exact ev_neg h1 (ev_neg h2 (ev_neg h3 (ev_pos h4 (bad (no (by omega))))))
  refine ev_neg h1 (ev_neg h2 (ev_neg h3 (ev_neg h4 (Ev.bind (dcheck_ev ns hf) ?_))))
  have hh : decide (0 ≤ id ∧ id ≤ 1099511627776 ∧ 1 ≤ key.size ∧ key.size ≤ 24) = true := decide_eq_true (by omega)
  by_cases h5 : mayS ns = true
  rotate_left
  · refine ev_neg (fun h => h5 ((check_zero ns).mp h)) (bad ?_)
    unfold mayRun
    rw [Bool.eq_false_iff.mpr h5, Bool.false_and, Bool.and_false]
  refine ev_pos ((check_zero ns).mpr h5) ?_
  obtain ⟨hn, _, hr⟩ := may_needs h5
  by_cases h6 : ts.length = ns.length
  rotate_left
  · rw [show ((ts.length : Int) != (ns.length : Int)) = true by simp; omega]
    refine bad ?_
    unfold mayRun
    rw [decide_eq_false h6, Bool.false_and, Bool.and_false, Bool.and_false]
  rw [show ((ts.length : Int) != (ns.length : Int)) = false by simp; omega]
  refine Ev.step (fun _ => run_Check.j0.eq_2 ..) (ev_neg (by decide) (ev_eq (rchk_l0 id key ns st ts (by omega) h6 hx hr ns.length 0 (by omega)) ?_))
  unfold chkRun mayRun
  rw [hh, h5, decide_eq_true h6, Bool.true_and, Bool.true_and, Bool.true_and, List.drop_zero]
end Go.Proofs.Ytbiphljdommacaa.R

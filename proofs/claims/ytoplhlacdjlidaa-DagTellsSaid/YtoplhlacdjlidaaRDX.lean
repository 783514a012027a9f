/- DagTells: what is told twice is the same. -/
import Derived.Test.YtoplhlacdjlidaaRx9
import Derived.Test.YtoplhlacdjlidaaRDT
import Derived.Test.YtoplhlacdjlidaaRDV
import Derived.Test.YtoplhlacdjlidaaRDW
namespace Go.Proofs.Ytoplhlacdjlidaa.R
open Go.RowKit Go.Proofs.YtoplhlacdjlidaaW.PrintWords Go.Proofs.YtoplhlacdjlidaaW.PrintLast Go.Proofs.YtoplhlacdjlidaaW.PrintMore Go.Proofs.Ytoplhlacdjlidaa.Plain
set_option linter.unusedVariables false
set_option linter.unusedSimpArgs false
def greatS (l : List NodeT) : Bool := decide (60 < l.length) || l.any fun x => decide (60 < x.f0.length)
theorem great_l0 (l : List NodeT) (h60 : l.length ≤ 60) : ∀ (d i : Nat), i + d = l.length → Ev (fun k => millhandref23_Great.l0 k (i : Int) l) ((l.drop i).any fun x => decide (60 < x.f0.length))
  | 0, i, h => by
    rw [List.drop_eq_nil_of_le (by omega)]
    exact Ev.step (fun _ => millhandref23_Great.l0.eq_2 ..) (ev_neg (by omega) (Ev.now _))
  | d + 1, i, h => by
    have hi : i < l.length := by omega
    refine Ev.step (fun _ => millhandref23_Great.l0.eq_2 ..) (ev_pos (by omega) (ev_pos (by omega) ?_))
    rw [rd_node l i hi, List.drop_eq_getElem_cons hi, List.any_cons]
    by_cases hx : 60 < l[i].f0.length
    · rw [decide_eq_true hx, Bool.true_or]
      exact ev_pos (by omega) (Ev.now _)
    · rw [decide_eq_false hx, Bool.false_or]
      refine ev_neg (by omega) ?_
      rw [w64 (by omega) (by omega), show (i : Int) + 1 = ((i + 1 : Nat) : Int) by omega]
      exact great_l0 l h60 d (i + 1) (by omega)
theorem great_ev (l : List NodeT) : Ev (fun k => millhandref23_Great.f k l) (greatS l) := by
  unfold millhandref23_Great.f greatS
  by_cases h : 60 < l.length
  · rw [decide_eq_true h, Bool.true_or]
    exact ev_pos (by omega) (Ev.now _)
  · rw [decide_eq_false h, Bool.false_or]
    have := great_l0 l (by omega) l.length 0 (by omega)
    exact ev_neg (by omega) this
theorem great_fit {l : List NodeT} (h : greatS l = false) : fitS l ∧ l.length ≤ 60 := by
  unfold greatS at h
  rw [Bool.or_eq_false_iff, decide_eq_false_iff_not, List.any_eq_false] at h
  refine ⟨⟨by omega, fun x hx => ?_⟩, by omega⟩
  have := h.2 x hx
  simp at this
  omega
theorem uniq {α : Type} {g : Nat → Option α} (hm : ∀ k, LeO (g k) (g (k + 1))) {r r' : α} (he : Ev g r) {k : Nat} (h : g k = some r') : r' = r := by
  obtain ⟨K, hK⟩ := he
  have h1 := at_rounds hm (Nat.le_max_left k K) h
  have h2 := hK (max k K) (Nat.le_max_right k K)
  exact Option.some.inj (h1.symm.trans h2)
def TellsS (l0 l1 : List NodeT) (l2 : List Bool) : Prop := greatS l0 = false ∧ greatS l1 = false ∧ l2.length ≤ 1000
theorem tells_small {k k' : Nat} {l0 l1 : List NodeT} {l2 : List Bool} (h0 : millhandref23_Great.f k l0 = some false) (h1 : millhandref23_Great.f k' l1 = some false) (h : decide ((l2.length : Int) > 1000) = false) : TellsS l0 l1 l2 := by
  have e0 := uniq (millhandref23_Great.mono l0) (great_ev l0) h0
  have e1 := uniq (millhandref23_Great.mono l1) (great_ev l1) h1
  have := of_decide_eq_false h
  exact ⟨e0.symm, e1.symm, by omega⟩
theorem orderS_len (l : List NodeT) (h : l.length ≤ 60) : (orderS l).1.length ≤ 1000 := by
  unfold orderS
  split
  · have := (row_all l).2.1
    show (rowS l).length ≤ 1000
    unfold rowS
    rw [List.length_map]
    omega
  · exact Nat.zero_le _
theorem readyS_len (l : List NodeT) (h : l.length ≤ 60) (d : List Bool) : (readyS l d).1.length ≤ 1000 := by
  unfold readyS
  split
  · split
    · show (openS l d).length ≤ 1000
      unfold openS
      rw [List.length_map]
      have := List.length_filter_le (fun i => !(d.getD i false) && metS (needs l i) d) (List.range l.length)
      rw [List.length_range] at this
      omega
    · exact Nat.zero_le _
  · exact Nat.zero_le _
theorem depthS_len (l : List NodeT) (h : l.length ≤ 60) : (depthS l).1.length ≤ 1000 := by
  unfold depthS
  split
  · show (depS l).length ≤ 1000
    unfold depS
    rw [depGo_len, List.length_replicate]
    omega
  · exact Nat.zero_le _
theorem tells_same {k : Nat} {l0 l1 t445 : List NodeT} {l2 : List Bool} {t449 t453 t457 t461 t465 t469 t473 t477 t481 t485 : List Int} {t452 t456 t460 t464 t468 t472 t476 t480 t484 t488 : Int} (hs : TellsS l0 l1 l2) (a0 : millhandref23_Twin.f k l0 = some t445)
    (a1 : dag_Order.f k t445 = some (t449, t452)) (a2 : millhandref23_Order.f k l0 = some (t453, t456)) (a3 : dag_Roots.f k t445 = some (t457, t460)) (a4 : millhandref23_Roots.f k l0 = some (t461, t464)) (a5 : dag_Ready.f k t445 l2 = some (t465, t468)) (a6 : millhandref23_Ready.f k l0 l2 = some (t469, t472))
    (a7 : dag_Depth.f k t445 = some (t473, t476)) (a8 : millhandref23_Depth.f k l0 = some (t477, t480)) (a9 : dag_Write.f k t445 = some (t481, t484)) (a10 : millhandref23_Write.f k l0 = some (t485, t488)) :
    t445 = l0 ∧ (t449 = t453 ∧ t449.length ≤ 1000) ∧ t452 = t456 ∧ (t457 = t461 ∧ t457.length ≤ 1000) ∧ t460 = t464 ∧ (t465 = t469 ∧ t465.length ≤ 1000) ∧ t468 = t472 ∧ (t473 = t477 ∧ t473.length ≤ 1000) ∧ t476 = t480 ∧ t481 = t485 ∧ t484 = t488 := by
  obtain ⟨hf, h60⟩ := great_fit hs.1
  obtain rfl := uniq (millhandref23_Twin.mono l0) (twin_ev l0 h60 hf) a0
  have e1 := uniq (dag_Order.mono _) (Order_ev _ hf) a1
  have e2 := uniq (millhandref23_Order.mono _) (refOrder_ev _ hf) a2
  have e3 := uniq (dag_Roots.mono _) (Roots_ev _ hf) a3
  have e4 := uniq (millhandref23_Roots.mono _) (refRoots_ev _ hf) a4
  have e5 := uniq (dag_Ready.mono _ _) (Ready_ev _ hf l2) a5
  have e6 := uniq (millhandref23_Ready.mono _ _) (refReady_ev _ hf l2) a6
  have e7 := uniq (dag_Depth.mono _) (Depth_ev _ hf) a7
  have e8 := uniq (millhandref23_Depth.mono _) (refDepth_ev _ hf) a8
  have e9 := uniq (dag_Write.mono _) (Write_ev _ hf) a9
  have e10 := uniq (millhandref23_Write.mono _) (refWrite_ev _ hf) a10
  have c1 := Prod.mk.inj (e1.trans e2.symm)
  have c3 := Prod.mk.inj (e3.trans e4.symm)
  have c5 := Prod.mk.inj (e5.trans e6.symm)
  have c7 := Prod.mk.inj (e7.trans e8.symm)
  have c9 := Prod.mk.inj (e9.trans e10.symm)
  have b1 := orderS_len _ h60
  have b3 := readyS_len _ h60 (List.replicate t445.length false)
  have b5 := readyS_len _ h60 l2
  have b7 := depthS_len _ h60
  rw [← e1] at b1
  rw [← e3] at b3
  rw [← e5] at b5
  rw [← e7] at b7
  exact ⟨rfl, ⟨c1.1, b1⟩, c1.2, ⟨c3.1, b3⟩, c3.2, ⟨c5.1, b5⟩, c5.2, ⟨c7.1, b7⟩, c7.2, c9.1, c9.2⟩
theorem num_true {a b : List Int} {k : Nat} {t : Bool} (e : a = b ∧ a.length ≤ 1000) (h : millhandref23_Numbers.f k a b = some t) : t = true := by
  rw [uniq (millhandref23_Numbers.mono a b) (numbers_ev a b (by omega)) h]
  exact decide_eq_true e.1
theorem check_true {k : Nat} {l0 l1 o : List NodeT} {l2 : List Bool} {a b : Int} (hs : TellsS l0 l1 l2) (e : o = l0) (h : dag_Check.f k o = some a) (h' : millhandref23_Check.f k l0 = some b) : a = b := by
  subst e
  obtain ⟨hf, h60⟩ := great_fit hs.1
  rw [uniq (dag_Check.mono _) (check_ev _ hf) h, uniq (millhandref23_Check.mono _) (refCheck_ev _ hf) h']
theorem same_true {k : Nat} {l0 l1 : List NodeT} {l2 : List Bool} {a b : Bool} (hs : TellsS l0 l1 l2) (h : dag_Same.f k l0 l1 = some a) (h' : millhandref23_Same.f k l0 l1 = some b) : (a == b) = true := by
  obtain ⟨hf, h60⟩ := great_fit hs.1
  rw [uniq (dag_Same.mono _ _) (same_ev _ _ hf) h, uniq (millhandref23_Same.mono _ _) (refSame_ev _ _ hf) h']
  simp
end Go.Proofs.Ytoplhlacdjlidaa.R

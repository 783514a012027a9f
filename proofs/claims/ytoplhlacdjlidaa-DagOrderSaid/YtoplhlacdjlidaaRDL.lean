/- The order's law, in plain words. -/
import Derived.Test.YtoplhlacdjlidaaRx15
import Derived.Test.YtoplhlacdjlidaaRx16
import Derived.Test.YtoplhlacdjlidaaRx4
import Derived.Test.YtoplhlacdjlidaaRx17
import Derived.Test.YtoplhlacdjlidaaRx18
import Derived.Test.YtoplhlacdjlidaaRx19
import Derived.Test.YtoplhlacdjlidaaRDP
import Derived.Test.YtoplhlacdjlidaaROp
namespace Go.Proofs.Ytoplhlacdjlidaa.R
open Go.RowKit Go.Proofs.YtoplhlacdjlidaaW.PrintWords Go.Proofs.YtoplhlacdjlidaaW.PrintLast Go.Proofs.YtoplhlacdjlidaaW.PrintMore Go.Proofs.Ytoplhlacdjlidaa.Plain
set_option linter.unusedVariables false
set_option linter.unusedSimpArgs false
def greatS (l : List NodeT) : Bool := decide (60 < l.length) || l.any fun x => decide (60 < x.f0.length)
theorem great_l0 (l : List NodeT) (h60 : l.length ≤ 60) : ∀ (d i : Nat), i + d = l.length → Ev (fun k => millhandref23_Great.l0 k (i : Int) l) ((l.drop i).any fun x => decide (60 < x.f0.length))
  | 0, i, h => by
    rw [List.drop_eq_nil_of_le (by omega)]
    exact Ev.step (fun _ => millhandref23_Great.l0.eq_2 ..) (ev_neg (by omega) (Ev.now _))
  | d + 1, i, h => by
    have hi : i < l.length := by omega
    refine Ev.step (fun _ => millhandref23_Great.l0.eq_2 ..) (ev_pos (by omega) (ev_pos (by omega) ?_))
    rw [rd_node l i hi, List.drop_eq_getElem_cons hi, List.any_cons]
    by_cases hx : 60 < l[i].f0.length
    · rw [decide_eq_true hx, Bool.true_or]
      exact ev_pos (by omega) (Ev.now _)
    · rw [decide_eq_false hx, Bool.false_or]
      refine ev_neg (by omega) ?_
      rw [w64 (by omega) (by omega), show (i : Int) + 1 = ((i + 1 : Nat) : Int) by omega]
      exact great_l0 l h60 d (i + 1) (by omega)
theorem great_ev (l : List NodeT) : Ev (fun k => millhandref23_Great.f k l) (greatS l) := by
  unfold millhandref23_Great.f greatS
  by_cases h : 60 < l.length
  · rw [decide_eq_true h, Bool.true_or]
    exact ev_pos (by omega) (Ev.now _)
  · rw [decide_eq_false h, Bool.false_or]
    have := great_l0 l (by omega) l.length 0 (by omega)
    exact ev_neg (by omega) this
theorem great_fit {l : List NodeT} (h : greatS l = false) : fitS l ∧ l.length ≤ 60 := by
  unfold greatS at h
  rw [Bool.or_eq_false_iff, decide_eq_false_iff_not, List.any_eq_false] at h
  refine ⟨⟨by omega, fun x hx => ?_⟩, by omega⟩
  have := h.2 x hx
  simp at this
  omega
theorem dagAlive_ev : Ev (fun k => millhandlaw23_alive.f k) true := Ev.of millhandlaw23_alive.mono (k := 60) (by decide +kernel)
theorem step_le (d : List Int) (m k : Int) : m ≤ depStep d m k ∧ rd d k + 1 ≤ depStep d m k := by
  unfold depStep mx
  split <;> omega
theorem fold_ge (d : List Int) : ∀ (x : List Int) (m : Int), m ≤ x.foldl (depStep d) m ∧ ∀ k ∈ x, rd d k + 1 ≤ x.foldl (depStep d) m
  | [], m => ⟨Int.le_refl _, fun k hk => by simp at hk⟩
  | a :: x, m => by
    obtain ⟨h1, h2⟩ := step_le d m a
    obtain ⟨h3, h4⟩ := fold_ge d x (depStep d m a)
    rw [List.foldl_cons]
    refine ⟨Int.le_trans h1 h3, fun k hk => ?_⟩
    rcases List.mem_cons.mp hk with rfl | hk
    · exact Int.le_trans h2 h3
    · exact h4 k hk
structure DepInv (l : List NodeT) (p : List Nat) (d : List Int) : Prop where
  len : d.length = l.length
  rng : ∀ v : Nat, 0 ≤ rd d v ∧ rd d v ≤ p.length
  low : ∀ i ∈ p, 1 ≤ rd d (i : Int)
  up : ∀ i ∈ p, ∀ k ∈ needs l i, rd d k < rd d (i : Int)
theorem dep_inv (l : List NodeT) (hs : shapeS l = true) : ∀ (r p : List Nat) (d : List Int), rowN l = p ++ r → DepInv l p d → DepInv l (rowN l) (depGo l r d)
  | [], p, d, h, hd => by
    rw [h, List.append_nil]
    exact hd
  | i :: r, p, d, h, hd => by
    obtain ⟨hi, hc, hn⟩ := (row_all l).1 p i r h
    rw [depGo]
    refine dep_inv l hs r (p ++ [i]) (d.set i (depOf l d i)) (by rw [h]; simp) ?_
    have hil : i < d.length := by rw [hd.len]; exact hi
    have hip : i ∉ p := by simpa using hc
    have hnd := shape_needs l hs i hi
    have hfold := dep_fold (d := d) (c := (p.length : Int)) (needs l i) 1 (fun k hk => by
      obtain ⟨v, rfl⟩ := Int.eq_ofNat_of_zero_le (hnd k hk).1
      exact hd.rng v) (by omega)
    have hge := fold_ge d (needs l i) 1
    have hmem : ∀ k ∈ needs l i, rd (d.set i (depOf l d i)) k = rd d k := by
      intro k hk
      obtain ⟨k0, _, k2⟩ := hnd k hk
      obtain ⟨v, rfl⟩ := Int.eq_ofNat_of_zero_le k0
      exact rd_set_ne d i v _ (by omega)
    have hself := rd_set_eq d i (depOf l d i) hil
    have hne : ∀ j : Nat, j ≠ i → rd (d.set i (depOf l d i)) (j : Int) = rd d (j : Int) := fun j hj => rd_set_ne d i j _ (fun e => hj e.symm)
    have hlen : ((p ++ [i]).length : Int) = (p.length : Int) + 1 := by simp
    refine ⟨by rw [List.length_set]; exact hd.len, fun v => ?_, fun j hj => ?_, fun j hj k hk => ?_⟩
    · rw [hlen]
      by_cases e : v = i
      · rw [e, hself]
        exact hfold
      · rw [hne v e]
        have := hd.rng v
        exact ⟨this.1, by omega⟩
    · by_cases e : j = i
      · rw [e, hself]
        exact hge.1
      · rw [hne j e]
        exact hd.low j ((List.mem_append.mp hj).resolve_right (by simpa using e))
    · by_cases e : j = i
      · rw [e] at hk ⊢
        rw [hself, hmem k hk]
        exact Int.lt_of_add_one_le (hge.2 k hk)
      · have hjp := (List.mem_append.mp hj).resolve_right (by simpa using e)
        obtain ⟨p1, p2, ep⟩ := List.append_of_mem hjp
        have hpl := (row_all l).1 p1 j (p2 ++ i :: r) (by rw [h, ep]; simp)
        obtain ⟨a, ha, e2⟩ := (inN_iff p1 k).mp (hpl.2.2 k hk)
        have hai : a ≠ i := by
          rintro rfl
          exact hip (by rw [ep]; exact List.mem_append_left _ ha)
        rw [← e2, hne a hai, hne j e, e2]
        exact hd.up j hjp k hk
theorem dep_all (l : List NodeT) (hs : shapeS l = true) : DepInv l (rowN l) (depS l) := by
  refine dep_inv l hs (rowN l) [] (List.replicate l.length 0) rfl ⟨by simp, fun v => ?_, fun i hi => by simp at hi, fun i hi => by simp at hi⟩
  unfold rd
  rw [List.getD_eq_getElem?_getD, List.getElem?_replicate]
  split <;> simp
theorem DagOrder_l1 (l : List NodeT) (hs : shapeS l = true) (h12 : l.length ≤ 12) (hrl : (rowN l).length = l.length) (i : Nat) (hi : i < (rowN l).length) (a : Nat) (ha : a = (rowN l)[i]) (hin : a < l.length)
    (cont : Ev (fun k => millhandlaw23_DagOrder.l0 k (rowS l) (depS l) (marks l.length ((rowN l).take i ++ [a])) (wrap64 ((i : Int) + 1)) l) true) :
    ∀ (e j : Nat), j + e = l[a].f0.length → Ev (fun k => millhandlaw23_DagOrder.l1 k (rowS l) (depS l) (marks l.length ((rowN l).take i)) (i : Int) (j : Int) l l[a].f0 l[a].f1 l[a].f2) true := by
  have hlen := dep_all l hs
  have hml := marks_length l.length ((rowN l).take i)
  have hrs : (rowS l).length = l.length := by rw [rowS_length, hrl]
  have hra : rd (rowS l) (i : Int) = (a : Int) := by
    rw [rd_int _ i (by rw [hrs]; omega), ha]
    simp [rowS]
  have hmema : a ∈ rowN l := by rw [ha]; exact List.getElem_mem hi
  have hspl : rowN l = (rowN l).take i ++ a :: (rowN l).drop (i + 1) := by rw [ha, ← List.drop_eq_getElem_cons hi, List.take_append_drop]
  have hpl := (row_all l).1 _ _ _ hspl
  have hnd := shape_needs l hs a hin
  have hup := hlen.up a hmema
  have hlow := hlen.low a hmema
  have hrng := hlen.rng a
  have hdl := hlen.len
  have hxl := shape_len l hs a hin
  have hpn := hpl.2.2
  rw [needs_at l a hin] at hnd hup hpn
  clear hmema hspl hpl hlen
  intro e
  induction e with
  | zero =>
    intro j h
    refine Ev.step (fun _ => millhandlaw23_DagOrder.l1.eq_2 ..) (ev_neg (by omega) (ev_pos (by omega) (ev_pos (by omega) ?_)))
    rw [hra]
    refine ev_pos (by omega) (ev_pos (by omega) (ev_pos (by omega) (ev_neg (by omega) (ev_neg (by omega) ?_))))
    rw [Int.toNat_natCast, marks_set l.length _ a hin]
    exact cont
  | succ e ih =>
    intro j h
    have hj : j < l[a].f0.length := by omega
    obtain ⟨k0, k1, _⟩ := hnd _ (List.getElem_mem hj)
    obtain ⟨v, hv⟩ := Int.eq_ofNat_of_zero_le k0
    have hu := hup _ (List.getElem_mem hj)
    have hp := hpn _ (List.getElem_mem hj)
    refine Ev.step (fun _ => millhandlaw23_DagOrder.l1.eq_2 ..) (ev_pos (by omega) (ev_pos (by omega) ?_))
    rw [rd_int l[a].f0 j hj]
    rw [hv] at hu hp ⊢
    rw [inN_nat] at hp
    have hm : rdOf false (marks l.length ((rowN l).take i)) (v : Int) = true := by
      have h2 := marks_at l.length ((rowN l).take i) v (by omega)
      rw [rd_boolL _ v (by omega), ← hp, ← h2]
      simp [List.getD, List.getElem?_eq_getElem (show v < (marks l.length ((rowN l).take i)).length by omega)]
    refine ev_pos (by omega) (ev_pos (by omega) (ev_pos hm (ev_pos (by omega) (ev_pos (by omega) (ev_pos (by omega) ?_)))))
    rw [hra]
    refine ev_pos (by omega) (ev_pos (by omega) (ev_neg (by omega) ?_))
    rw [w64 (by omega) (by omega), show (j : Int) + 1 = ((j + 1 : Nat) : Int) by omega]
    exact ih (j + 1) (by omega)
theorem DagOrder_l0 (l : List NodeT) (hs : shapeS l = true) (h12 : l.length ≤ 12) (hrl : (rowN l).length = l.length) : ∀ (e i : Nat), i + e = (rowN l).length → Ev (fun k => millhandlaw23_DagOrder.l0 k (rowS l) (depS l) (marks l.length ((rowN l).take i)) (i : Int) l) true
  | 0, i, h => by
    refine Ev.step (fun _ => millhandlaw23_DagOrder.l0.eq_2 ..) (ev_neg (by rw [rowS_length]; omega) (Ev.now _))
  | e + 1, i, h => by
    have hi : i < (rowN l).length := by omega
    have hin := row_lt l _ (List.getElem_mem hi)
    have hml := marks_length l.length ((rowN l).take i)
    have hrs : (rowS l).length = l.length := by rw [rowS_length, hrl]
    have hra : rd (rowS l) (i : Int) = ((rowN l)[i] : Int) := by
      rw [rd_int _ i (by rw [hrs]; omega)]
      simp [rowS]
    have hspl : rowN l = (rowN l).take i ++ (rowN l)[i] :: (rowN l).drop (i + 1) := by rw [← List.drop_eq_getElem_cons hi, List.take_append_drop]
    have hpl := ((row_all l).1 _ _ _ hspl).2.1
    have hm : rdOf false (marks l.length ((rowN l).take i)) ((rowN l)[i] : Int) = false := by
      have h2 := marks_at l.length ((rowN l).take i) (rowN l)[i] hin
      rw [rd_boolL _ _ (by omega), ← hpl, ← h2]
      simp [List.getD, List.getElem?_eq_getElem (show (rowN l)[i] < (marks l.length ((rowN l).take i)).length by omega)]
    have cont : Ev (fun k => millhandlaw23_DagOrder.l0 k (rowS l) (depS l) (marks l.length ((rowN l).take i ++ [(rowN l)[i]])) (wrap64 ((i : Int) + 1)) l) true := by
      rw [w64 (by omega) (by omega), show (i : Int) + 1 = ((i + 1 : Nat) : Int) by omega, show (rowN l).take i ++ [(rowN l)[i]] = (rowN l).take (i + 1) by rw [List.take_add_one, List.getElem?_eq_getElem hi]; rfl]
      exact DagOrder_l0 l hs h12 hrl e (i + 1) (by omega)
    have := DagOrder_l1 l hs h12 hrl i hi _ rfl hin cont l[(rowN l)[i]].f0.length 0 (by omega)
    clear cont hspl hpl
    refine Ev.step (fun _ => millhandlaw23_DagOrder.l0.eq_2 ..) (ev_pos (by omega) (ev_pos (by omega) ?_))
    rw [hra]
    refine ev_neg (by omega) (ev_neg (by omega) (ev_pos (by omega) (ev_pos (by omega) ?_)))
    rw [hm]
    refine Ev.step (fun _ => millhandlaw23_DagOrder.j4.eq_2 ..) (ev_neg (by decide) (ev_pos (by omega) (ev_pos (by omega) ?_)))
    rw [hra]
    refine ev_pos (by omega) (ev_pos (by omega) ?_)
    rw [rd_node l _ hin]
    exact this
theorem DagOrder_ev (l : List NodeT) : Ev (fun k => millhandlaw23_DagOrder.f k l) true := by
  unfold millhandlaw23_DagOrder.f
  refine Ev.bind dagAlive_ev (Ev.bind (great_ev l) ?_)
  cases hg : greatS l with
  | true => exact ev_pos rfl (Ev.step (fun _ => millhandlaw23_DagOrder.j0.eq_2 ..) (ev_pos rfl (Ev.now _)))
  | false =>
    obtain ⟨hf, h60⟩ := great_fit hg
    refine ev_neg (by decide) (Ev.step (fun _ => millhandlaw23_DagOrder.j0.eq_2 ..) (ev_neg (by decide) (Ev.bind (Order_ev l hf) (Ev.bind (Depth_ev l hf) ?_))))
    unfold orderS depthS
    by_cases h : checkS l = 0
    · rw [if_pos h, if_pos h]
      dsimp only
      obtain ⟨p1, p2, p3, p4⟩ := may_parts ((check_zero l).mp h)
      have hd := (dep_all l p3).len
      have hr : (rowS l).length = l.length := by rw [rowS_length, p4]
      refine ev_pos rfl (Ev.step (fun _ => millhandlaw23_DagOrder.j1.eq_2 ..) (ev_neg (by decide) (ev_pos (by omega) (Ev.step (fun _ => millhandlaw23_DagOrder.j2.eq_2 ..) (ev_neg (by rw [bne_iff_ne]; omega) (ev_pos (by omega) (ev_pos (by omega) ?_)))))))
      have := DagOrder_l0 l p3 p2 p4 (rowN l).length 0 (by omega)
      rw [List.take_zero, marks_nil] at this
      rw [Int.toNat_natCast, hr]
      exact this
    · rw [if_neg h, if_neg h]
      dsimp only
      refine ev_neg h (Ev.step (fun _ => millhandlaw23_DagOrder.j1.eq_2 ..) (ev_pos rfl (ev_pos rfl (ev_some rfl))))
theorem spec_open {w : World} {x : S25} {cs : Array Value} (h : k25.K w x cs.toList) : ∃ A c, cs = #[.slice A x.f0.length c] ∧ x.f0.length ≤ c ∧ Kd.C k40 w A x.f0.length x.f0 := by
  obtain ⟨A, c, hcs, hle, hC⟩ := h
  refine ⟨A, c, ?_, hle, hC⟩
  cases cs
  simpa using hcs
theorem DagOrder_walk (w : World) (x0 : S25) (cs0 : Array Value) (r0 : k25.K w x0 cs0.toList) (g0_ : g25 x0) :
    Calls Try.prog 4 #[.agg cs0] w fun e w' => e = .returned (.bool true) ∧ Below w.heap.size w w' := by
  obtain ⟨A, c, rfl, hle, hC⟩ := spec_open r0
  obtain ⟨k, h⟩ := (DagOrder_ev x0.f0).rounds
  exact millhandlaw23_DagOrder.calls k A c x0.f0 true w hC hle h
end Go.Proofs.Ytoplhlacdjlidaa.R

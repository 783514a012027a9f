/- DagTells, in plain words. -/
import Derived.Test.YtoplhlacdjlidaaRx22
import Derived.Test.YtoplhlacdjlidaaRDX
import Derived.Test.YtoplhlacdjlidaaROp
namespace Go.Proofs.Ytoplhlacdjlidaa.R
open Go.RowKit Go.Proofs.YtoplhlacdjlidaaW.PrintWords Go.Proofs.YtoplhlacdjlidaaW.PrintLast Go.Proofs.YtoplhlacdjlidaaW.PrintMore Go.Proofs.Ytoplhlacdjlidaa.Plain Go.Proofs.Ytoplhlacdjlidaa.Opens
set_option linter.unusedVariables false
set_option linter.unusedSimpArgs false
theorem sameS_refl : ∀ l : List NodeT, sameS l l = true
  | [] => rfl
  | x :: l => by
    rw [sameS, sameS_refl l]
    simp [sameN]
theorem DagTells_l1 (x28 x29 : Bool) (l o : List NodeT) (r : Bool) (h : Ev (fun k => if x28 = true then (if x29 = true then (millhandref23_Same.f k o l).bind fun t => some t else some false) else some false) r) : ∀ (d i : Nat) (x : List Int), i + d = x.length → x.length ≤ 1000 → Ev (fun k => millhandlaw23_DagTells.l1 k x x28 x29 (i : Int) l o) r
  | 0, i, x, hx, hl => Ev.step (fun _ => millhandlaw23_DagTells.l1.eq_2 ..) (ev_neg (by omega) h)
  | d + 1, i, x, hx, hl => by
    refine Ev.step (fun _ => millhandlaw23_DagTells.l1.eq_2 ..) (ev_pos (by omega) (ev_pos (by omega) ?_))
    rw [show wrap64 ((i : Int) + 1) = ((i + 1 : Nat) : Int) by rw [w64 (by omega) (by omega)]; omega]
    exact DagTells_l1 x28 x29 l o r h d (i + 1) _ (by rw [List.length_set]; omega) (by rw [List.length_set]; exact hl)
theorem DagTells_l0 (y : List Int) (x28 x29 : Bool) (l o : List NodeT) (r : Bool) (h : Ev (fun k => millhandlaw23_DagTells.l1 k y x28 x29 0 l o) r) : ∀ (d i : Nat) (x : List Int), i + d = x.length → x.length ≤ 1000 → Ev (fun k => millhandlaw23_DagTells.l0 k x y x28 x29 (i : Int) l o) r
  | 0, i, x, hx, hl => Ev.step (fun _ => millhandlaw23_DagTells.l0.eq_2 ..) (ev_neg (by omega) h)
  | d + 1, i, x, hx, hl => by
    refine Ev.step (fun _ => millhandlaw23_DagTells.l0.eq_2 ..) (ev_pos (by omega) (ev_pos (by omega) ?_))
    rw [show wrap64 ((i : Int) + 1) = ((i + 1 : Nat) : Int) by rw [w64 (by omega) (by omega)]; omega]
    exact DagTells_l0 y x28 x29 l o r h d (i + 1) _ (by rw [List.length_set]; omega) (by rw [List.length_set]; exact hl)
theorem numbers_same (a : List Int) (ha : a.length ≤ 1000) : Ev (fun k => millhandref23_Numbers.f k a a) true := ev_eq (numbers_ev a a (by omega)) (decide_eq_true rfl)
theorem DagTells_ev (l0 l1 : List NodeT) (l2 : List Bool) : Ev (fun k => millhandlaw23_DagTells.f k l0 l1 l2) true := by
  unfold millhandlaw23_DagTells.f
  have great : Ev (fun k => millhandlaw23_DagTells.j0 k l2 true l0 l1) true := Ev.step (fun _ => millhandlaw23_DagTells.j0.eq_2 ..) (ev_pos rfl (Ev.now _))
  refine Ev.bind (great_ev l0) ?_
  cases h0 : greatS l0 with
  | true => exact ev_pos rfl great
  | false =>
    refine ev_neg (by decide) (Ev.bind (great_ev l1) ?_)
    cases h1 : greatS l1 with
    | true => exact ev_pos rfl great
    | false =>
      refine ev_neg (by decide) ?_
      by_cases h2 : (l2.length : Int) > 1000
      · rw [decide_eq_true h2]
        exact great
      · rw [decide_eq_false h2]
        obtain ⟨hf, h60⟩ := great_fit h0
        have b1 := orderS_len _ h60
        have b3 := readyS_len _ h60 (List.replicate l0.length false)
        have b5 := readyS_len _ h60 l2
        have b7 := depthS_len _ h60
        refine Ev.step (fun _ => millhandlaw23_DagTells.j0.eq_2 ..) (ev_neg (by decide) (Ev.bind (twin_ev l0 h60 hf) (Ev.bind (Order_ev l0 hf) (Ev.bind (refOrder_ev l0 hf) (Ev.bind (Roots_ev l0 hf) (Ev.bind (refRoots_ev l0 hf) (Ev.bind (Ready_ev l0 hf l2) (Ev.bind (refReady_ev l0 hf l2) (Ev.bind (Depth_ev l0 hf) (Ev.bind (refDepth_ev l0 hf) (Ev.bind (Write_ev l0 hf) (Ev.bind (refWrite_ev l0 hf) ?_))))))))))))
        refine Ev.bind (numbers_same _ b1) (ev_pos rfl (ev_pos rfl (Ev.bind (numbers_same _ b3) (ev_pos rfl (ev_pos rfl (Ev.bind (numbers_same _ b5) (ev_pos rfl ?_)))))))
        rw [show ((readyS l0 l2).2 == (readyS l0 l2).2) = true from beq_self_eq_true _]
        refine Ev.step (fun _ => millhandlaw23_DagTells.j1.eq_2 ..) (Ev.bind (numbers_same _ b7) (ev_pos rfl (ev_pos rfl (ev_pos rfl (ev_pos rfl (Ev.bind (check_ev l0 hf) (Ev.bind (refCheck_ev l0 hf) (ev_pos rfl (Ev.bind (same_ev l0 l1 hf) (Ev.bind (refSame_ev l0 l1 hf) (ev_pos (beq_self_eq_true _) (Ev.bind (same_ev l0 l0 hf) ?_))))))))))))
        rw [sameS_refl]
        refine Ev.step (fun _ => millhandlaw23_DagTells.j2.eq_2 ..) ?_
        refine DagTells_l0 _ true true l0 l0 true ?_ (orderS l0).1.length 0 (orderS l0).1 (by omega) b1
        refine DagTells_l1 true true l0 l0 true ?_ (readyS l0 l2).1.length 0 (readyS l0 l2).1 (by omega) b5
        have := refSame_ev l0 l0 hf
        rw [sameS_refl] at this
        exact ev_pos rfl (ev_pos rfl (Ev.bind this (Ev.now _)))
theorem spec_open {w : World} {x : S25} {cs : Array Value} (h : k25.K w x cs.toList) : ∃ A c, cs = #[.slice A x.f0.length c] ∧ x.f0.length ≤ c ∧ Kd.C k40 w A x.f0.length x.f0 := by
  obtain ⟨A, c, hcs, hle, hC⟩ := h
  refine ⟨A, c, ?_, hle, hC⟩
  cases cs
  simpa using hcs
theorem DagTells_walk (w : World) (x0 : S25) (cs0 : Array Value) (r0 : k25.K w x0 cs0.toList) (g0_ : g25 x0) (x1 : S25) (cs1 : Array Value) (r1 : k25.K w x1 cs1.toList) (g1_ : g25 x1) (A2 : Option Addr) (c2 : Nat) (l2 : List Bool) (r2 : Kd.C Kd.bool w A2 l2.length l2) (q2 : l2.length ≤ c2) (g2_ : (l2.length * 1 ≤ 140737488351232 ∧ l2.length ≤ 9223372036854775807 ∧ ∀ y0 ∈ l2, True)) :
    Calls Try.prog 6 #[.agg cs0, .agg cs1, .slice A2 l2.length c2] w fun e w' => e = .returned (.bool true) ∧ Below w.heap.size w w' := by
  obtain ⟨A, c, rfl, hle, hC⟩ := spec_open r0
  obtain ⟨A1, c1, rfl, hle1, hC1⟩ := spec_open r1
  obtain ⟨k, h⟩ := (DagTells_ev x0.f0 x1.f0 l2).rounds
  exact millhandlaw23_DagTells.calls k A c x0.f0 A1 c1 x1.f0 A2 c2 l2 true w hC hle hC1 hle1 r2 q2 h
end Go.Proofs.Ytoplhlacdjlidaa.R

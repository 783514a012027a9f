/- Keys stand as their parts stand in order. -/
import Derived.Test.YtagdmgjdhbmaiaaDoorRx8
import Derived.Test.YtagdmgjdhbmaiaaDoorRx7
import Derived.Test.YtagdmgjdhbmaiaaDoorRKCm
import Derived.Test.YtagdmgjdhbmaiaaDoorRKOrd
import Derived.Test.YtagdmgjdhbmaiaaDoorROp
namespace Go.Proofs.YtagdmgjdhbmaiaaDoor.R
open Go.RowKit Go.Proofs.YtagdmgjdhbmaiaaDoorW.PrintWords Go.Proofs.YtagdmgjdhbmaiaaDoorW.PrintLast Go.Proofs.YtagdmgjdhbmaiaaDoorW.PrintMore Go.Proofs.YtagdmgjdhbmaiaaDoor.Plain
set_option linter.unusedVariables false
set_option linter.unusedSimpArgs false
theorem partLt_same {p q : PartT} (h : p.f0 = q.f0) : partLt p q ↔ (p.f1 < q.f1 ∨ Op.bytesLess p.f2.toList q.f2.toList = true) := by unfold partLt; rw [if_pos h]
theorem partLt_other {p q : PartT} (h : ¬ p.f0 = q.f0) : partLt p q ↔ q.f0 = true := by unfold partLt; rw [if_neg h]
theorem order_l0 (l m : List PartT) (hl : l.length ≤ 8) (hm : m.length ≤ 8) : ∀ (d i : Nat), i + d = l.length → i ≤ m.length → Ev (fun k => millhandref01_Order.l0 k l m (i : Int)) (orderS (l.drop i) (m.drop i))
  | d, i, h, him => by
    by_cases h1 : i < l.length
    · have el : l.drop i = l[i] :: l.drop (i + 1) := List.drop_eq_getElem_cons h1
      refine Ev.step (fun _ => millhandref01_Order.l0.eq_2 ..) (ev_pos (by omega) ?_)
      by_cases h2 : i < m.length
      · have em : m.drop i = m[i] :: m.drop (i + 1) := List.drop_eq_getElem_cons h2
        refine Ev.step (fun _ => millhandref01_Order.j1.eq_2 ..) (ev_pos (decide_eq_true (by omega)) (ev_pos (by omega) (ev_pos (by omega) (ev_pos (by omega) ?_))))
        rw [rd_part l i h1, rd_part m i h2, el, em, orderS]
        by_cases he : l[i].f0 = m[i].f0 ∧ l[i].f1 = m[i].f1 ∧ l[i].f2 = m[i].f2
        · rw [if_pos he]
          refine ev_pos (by simp [he.1, he.2.1, he.2.2]) ?_
          rw [w64 (by omega) (by omega)]
          match d, h with
          | 0, h => exact absurd h (by omega)
          | d + 1, h => exact order_l0 l m hl hm d (i + 1) (by omega) (by omega)
        · rw [if_neg he]
          have hne : l[i].f2.data.toList = m[i].f2.data.toList → l[i].f2 = m[i].f2 := fun e => by rw [← ba_eta l[i].f2, e, ba_eta]
          refine ev_neg (by
            simp only [Bool.and_eq_true, beq_iff_eq, ByteArray.toList_eq]
            exact fun e => he ⟨e.1, e.2.1, hne e.2.2⟩) ?_
          by_cases h0 : l[i].f0 = m[i].f0
          · refine ev_neg (by rw [h0]; simp) ?_
            by_cases h3 : l[i].f1 < m[i].f1
            · rw [if_pos ((partLt_same h0).mpr (Or.inl h3))]
              exact ev_pos h3 (Ev.now _)
            · refine ev_neg h3 ?_
              by_cases h4 : Op.bytesLess l[i].f2.toList m[i].f2.toList = true
              · rw [if_pos ((partLt_same h0).mpr (Or.inr h4))]
                exact ev_pos h4 (Ev.now _)
              · rw [if_neg (show ¬ partLt l[i] m[i] by rw [partLt_same h0]; rintro (h | h); exact h3 h; exact h4 h)]
                exact ev_neg h4 (Ev.now _)
          · refine ev_pos (by simpa using h0) ?_
            by_cases h5 : m[i].f0 = true
            · rw [if_pos ((partLt_other h0).mpr h5)]
              exact ev_pos h5 (Ev.now _)
            · rw [if_neg (fun e => h5 ((partLt_other h0).mp e))]
              exact ev_neg h5 (Ev.now _)
      · have em : m.drop i = [] := List.drop_eq_nil_of_le (by omega)
        rw [el, em]
        refine Ev.step (fun _ => millhandref01_Order.j1.eq_2 ..) (ev_neg (by simp; omega) (ev_neg (by omega) (ev_pos (by omega) (Ev.now _))))
    · have el : l.drop i = [] := List.drop_eq_nil_of_le (by omega)
      refine Ev.step (fun _ => millhandref01_Order.l0.eq_2 ..) (ev_neg (by omega) (Ev.step (fun _ => millhandref01_Order.j1.eq_2 ..) (ev_neg (by decide) ?_)))
      rw [el]
      by_cases h2 : i < m.length
      · have em : m.drop i = m[i] :: m.drop (i + 1) := List.drop_eq_getElem_cons h2
        rw [em]
        exact ev_pos (by omega) (Ev.now _)
      · have em : m.drop i = [] := List.drop_eq_nil_of_le (by omega)
        rw [em]
        exact ev_neg (by omega) (ev_neg (by omega) (Ev.now _))
theorem CodeOrder_ev (l m : List PartT) (hg : ∀ p ∈ l, 0 ≤ p.f1 ∧ p.f1 < 18446744073709551616) (hg2 : ∀ p ∈ m, 0 ≤ p.f1 ∧ p.f1 < 18446744073709551616) : Ev (fun k => millhandlaw01_CodeOrder.f k l m) true := by
  unfold millhandlaw01_CodeOrder.f
  refine Ev.bind codeAlive_ev (ev_pos rfl ?_)
  obtain ⟨b, hb, hc⟩ := heavy_ev l
  refine Ev.bind hb ?_
  cases b with
  | true => exact ev_pos rfl (Ev.step (fun _ => millhandlaw01_CodeOrder.j0.eq_2 ..) (ev_pos rfl (Ev.now _)))
  | false =>
    refine ev_neg (by decide) ?_
    obtain ⟨b, hb, hc⟩ := heavy_ev m
    refine Ev.bind hb ?_
    cases b with
    | true => exact Ev.step (fun _ => millhandlaw01_CodeOrder.j0.eq_2 ..) (ev_pos rfl (Ev.now _))
    | false =>
      refine Ev.step (fun _ => millhandlaw01_CodeOrder.j0.eq_2 ..) (ev_neg (by decide) (Ev.bind (code_Key_ev l) (Ev.bind (code_Key_ev m) ?_)))
      by_cases h1 : (keyS l).2 = 0
      · refine ev_pos h1 (Ev.step (fun _ => millhandlaw01_CodeOrder.j1.eq_2 ..) ?_)
        by_cases h2 : (keyS m).2 = 0
        · obtain ⟨a1, a8, aok, az, ae⟩ := keyS_inv l hg h1
          obtain ⟨b1, b8, bok, bz, be⟩ := keyS_inv m hg2 h2
          refine ev_neg (by rw [h2]; decide) (Ev.bind (order_l0 l m a8 b8 l.length 0 (by omega) (by omega)) ?_)
          rw [List.drop_zero, List.drop_zero, ae, be]
          obtain ⟨o1, o2, o3, o4⟩ := order_cmp l m aok bok
          have t1 : (⟨(keyU l).toArray⟩ : ByteArray).toList = keyU l := by rw [ByteArray.toList_eq]
          have t2 : (⟨(keyU m).toArray⟩ : ByteArray).toList = keyU m := by rw [ByteArray.toList_eq]
          rcases o4 with h | h | h
          · rw [h]
            exact ev_pos rfl (ev_pos rfl (ev_some (by rw [t1, t2]; exact o1 h)))
          · rw [h]
            refine ev_neg (by decide) (ev_pos rfl (ev_pos rfl (ev_some ?_)))
            rw [o2 h]
            simp
          · rw [h]
            exact ev_neg (by decide) (ev_neg (by decide) (ev_pos rfl (ev_some (by rw [t1, t2]; exact o3 h))))
        · exact ev_pos (by simpa using h2) (Ev.now _)
      · exact ev_neg h1 (Ev.step (fun _ => millhandlaw01_CodeOrder.j1.eq_2 ..) (ev_pos rfl (Ev.now _)))
theorem CodeOrder_walk (w : World) (A0 : Option Addr) (c0 : Nat) (l0 : List PartT) (r0 : Kd.C k50 w A0 l0.length l0) (q0 : l0.length ≤ c0) (g0_ : (l0.length * 32 ≤ 140737488351232 ∧ l0.length ≤ 9223372036854775807 ∧ ∀ y0 ∈ l0, g50 y0)) (A1 : Option Addr) (c1 : Nat) (l1 : List PartT) (r1 : Kd.C k50 w A1 l1.length l1) (q1 : l1.length ≤ c1) (g1_ : (l1.length * 32 ≤ 140737488351232 ∧ l1.length ≤ 9223372036854775807 ∧ ∀ y0 ∈ l1, g50 y0)) :
    Calls Tryd.prog 3 #[.slice A0 l0.length c0, .slice A1 l1.length c1] w fun e w' => e = .returned (.bool true) ∧ Below w.heap.size w w' := by
  obtain ⟨k, h⟩ := (CodeOrder_ev l0 l1 (fun p hp => wfu64.mp (g0_.2.2 p hp).2.1) (fun p hp => wfu64.mp (g1_.2.2 p hp).2.1)).rounds
  exact millhandlaw01_CodeOrder.calls k A0 c0 l0 A1 c1 l1 true w r0 q0 r1 q1 h
end Go.Proofs.YtagdmgjdhbmaiaaDoor.R

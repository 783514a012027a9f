/- A key is told as what it was made of. -/
import Derived.Test.YtagdmgjdhbmaiaaDoorRx31
import Derived.Test.YtagdmgjdhbmaiaaDoorRx30
import Derived.Test.YtagdmgjdhbmaiaaDoorRx28
import Derived.Test.YtagdmgjdhbmaiaaDoorRx20
import Derived.Test.YtagdmgjdhbmaiaaDoorRx24
import Derived.Test.YtagdmgjdhbmaiaaDoorRKOf
namespace Go.Proofs.YtagdmgjdhbmaiaaDoor.R
open Go.RowKit Go.Proofs.YtagdmgjdhbmaiaaDoorW.PrintWords Go.Proofs.YtagdmgjdhbmaiaaDoorW.PrintLast Go.Proofs.YtagdmgjdhbmaiaaDoorW.PrintMore Go.Proofs.YtagdmgjdhbmaiaaDoor.Plain
set_option linter.unusedVariables false
set_option linter.unusedSimpArgs false
theorem keysAlive_ev : Ev (fun k => millhandlaw22_alive.f k) true := Ev.of millhandlaw22_alive.mono (k := 40) (by decide +kernel)
theorem keys_Head_ev : Ev (fun k => keys_Head.f k) (keyOf 2 []) := by
  unfold keys_Head.f
  refine Ev.bind (made_ev 2 (by omega) [] (by simp)) ?_
  rw [made_head]
  exact Ev.now _
def lowS (kind : Int) : ByteArray := ⟨#[2, letC kind, 0, 0]⟩
def highS (kind : Int) : ByteArray := ⟨#[2, letC kind, 0, 1]⟩
theorem range_ev (kind : Int) (h : 1 ≤ kind ∧ kind ≤ 4) : Ev (fun k => keys_Range.f k kind) (lowS kind, highS kind, 0) := by
  obtain rfl | rfl | rfl | rfl : kind = 1 ∨ kind = 2 ∨ kind = 3 ∨ kind = 4 := by omega
  all_goals exact Ev.of (fun k => keys_Range.mono _ k) (k := 40) (by decide +kernel)
theorem in_ev (s : ByteArray) (kind : Int) (h : 1 ≤ kind ∧ kind ≤ 4) (r : List UInt8) (hs : s.data.toList = 2 :: letC kind :: 0 :: 0 :: r) : Ev (fun k => millhandlaw22_in.f k s kind) true := by
  unfold millhandlaw22_in.f
  have st : ∀ x : Int, 1 ≤ x → x ≤ 4 → Ev (fun k => millhandlaw22_in.l0 k s kind ((x + 1) % 256)) true → Ev (fun k => millhandlaw22_in.l0 k s kind x) true := by
    intro x h1 h4 hr
    refine Ev.step (fun _ => millhandlaw22_in.l0.eq_2 ..) (ev_pos h4 (Ev.bind (range_ev x ⟨h1, h4⟩) (ev_pos rfl ?_)))
    have e0 : s.toList = 2 :: letC kind :: 0 :: 0 :: r := by rw [ByteArray.toList_eq, hs]
    have e1 : (lowS x).toList = [2, letC x, 0, 0] := by rw [ByteArray.toList_eq]; rfl
    have e2 : (highS x).toList = [2, letC x, 0, 1] := by rw [ByteArray.toList_eq]; rfl
    rw [e0, e1, e2]
    have lr : Op.bytesLess r [] = false := by cases r <;> rfl
    by_cases hx : x = kind
    · subst hx
      have l1 : Op.bytesLess (2 :: letC x :: 0 :: 0 :: r) [2, letC x, 0, 0] = false := by
        have := less_same [2, letC x, 0, 0] r []
        rw [List.append_nil, lr] at this
        exact this
      have l2 : Op.bytesLess (2 :: letC x :: 0 :: 0 :: r) [2, letC x, 0, 1] = true := by
        have := less_same [2, letC x, 0] (0 :: r) [1]
        rw [less_head (by decide)] at this
        exact this
      rw [l1, l2]
      exact ev_neg (by decide) (ev_neg (by simp) hr)
    · have hne : (x == kind) = false := by rw [beq_eq_false_iff_ne]; exact hx
      rw [hne]
      have hd : letC x < letC kind ∨ letC kind < letC x := by
        obtain rfl | rfl | rfl | rfl : kind = 1 ∨ kind = 2 ∨ kind = 3 ∨ kind = 4 := by omega
        all_goals (obtain rfl | rfl | rfl | rfl : x = 1 ∨ x = 2 ∨ x = 3 ∨ x = 4 := by omega)
        all_goals first | exact absurd rfl hx | exact Or.inl (by decide) | exact Or.inr (by decide)
      rcases hd with hd | hd
      · have l1 : Op.bytesLess (2 :: letC kind :: 0 :: 0 :: r) [2, letC x, 0, 0] = false := by
          have := less_same [2] (letC kind :: 0 :: 0 :: r) [letC x, 0, 0]
          rw [less_head' hd] at this
          exact this
        have l2 : Op.bytesLess (2 :: letC kind :: 0 :: 0 :: r) [2, letC x, 0, 1] = false := by
          have := less_same [2] (letC kind :: 0 :: 0 :: r) [letC x, 0, 1]
          rw [less_head' hd] at this
          exact this
        rw [l1, l2]
        exact ev_neg (by decide) (ev_neg (by decide) hr)
      · have l1 : Op.bytesLess (2 :: letC kind :: 0 :: 0 :: r) [2, letC x, 0, 0] = true := by
          have := less_same [2] (letC kind :: 0 :: 0 :: r) [letC x, 0, 0]
          rw [less_head hd] at this
          exact this
        rw [l1]
        exact ev_pos (by decide) (ev_neg (by decide) hr)
  exact st 1 (by omega) (by omega) (st 2 (by omega) (by omega) (st 3 (by omega) (by omega) (st 4 (by omega) (by omega) (Ev.step (fun _ => millhandlaw22_in.l0.eq_2 ..) (ev_neg (by decide) (Ev.now _))))))
theorem is_ev (kind : Int) (h : 1 ≤ kind ∧ kind ≤ 4) (l : List PartT) (hz : (keyU l).length ≤ 60) (n : Int) (name : ByteArray) (ho : ofS (keyOf kind l) = (kind, n, name, 0)) : Ev (fun k => millhandlaw22_is.f k (keyOf kind l) kind n name) true := by
  unfold millhandlaw22_is.f
  have hsz := keyOf_size kind h l
  refine Ev.bind (keys_Of_ev _) ?_
  rw [ho]
  refine ev_pos rfl (ev_pos rfl (ev_pos rfl (ev_pos rfl (Ev.bind (in_ev _ kind h _ (keyOf_list kind h l)) (ev_pos rfl (ev_pos (by omega) (ev_some (decide_eq_true (by omega)))))))))
theorem KeysBack_ev (n : Int) (s : ByteArray) : Ev (fun k => millhandlaw22_KeysBack.f k n s) true := by
  unfold millhandlaw22_KeysBack.f
  refine Ev.bind keysAlive_ev ?_
  by_cases h5 : (s.size : Int) > 5000
  · exact ev_pos h5 (Ev.step (fun _ => millhandlaw22_KeysBack.j0.eq_2 ..) (ev_pos rfl (Ev.now _)))
  · refine ev_neg h5 (Ev.step (fun _ => millhandlaw22_KeysBack.j0.eq_2 ..) (ev_neg (by decide) ?_))
    refine Ev.bind (run_ev n) (Ev.bind (event_ev n) (Ev.bind (name_ev s) ?_))
    have last : Ev (fun k => millhandlaw22_KeysBack.j1 k false) true := Ev.step (fun _ => millhandlaw22_KeysBack.j1.eq_2 ..) (ev_neg (by decide) (Ev.bind keys_Head_ev (Ev.bind (is_ev 2 (by omega) [] (by simp [keyU]) 0 ⟨#[]⟩ of_head) (Ev.now _))))
    have nm : Ev (fun k => if (nameS s).2 = 0 then (millhandlaw22_is.f k (nameS s).1 3 0 s).bind fun t => millhandlaw22_KeysBack.j1 k (!t) else millhandlaw22_KeysBack.j1 k false) true := by
      by_cases h1 : (nameS s).2 = 0
      · obtain ⟨a1, a2⟩ := name_out s h1
        have := name_len s a2
        rw [name_in s a1 a2]
        exact ev_pos rfl (Ev.bind (is_ev 3 (by omega) [nameP s] (by omega) 0 s (of_name s a1 a2)) last)
      · exact ev_neg h1 last
    have evt : Ev (fun k => if (eventS n).2 = 0 then (millhandlaw22_is.f k (eventS n).1 1 n ⟨#[]⟩).bind fun t => (if t = true then if (nameS s).2 = 0 then (millhandlaw22_is.f k (nameS s).1 3 0 s).bind fun t => millhandlaw22_KeysBack.j1 k (!t) else millhandlaw22_KeysBack.j1 k false else millhandlaw22_KeysBack.j1 k true)
        else if (nameS s).2 = 0 then (millhandlaw22_is.f k (nameS s).1 3 0 s).bind fun t => millhandlaw22_KeysBack.j1 k (!t) else millhandlaw22_KeysBack.j1 k false) true := by
      by_cases h1 : (eventS n).2 = 0
      · obtain ⟨a1, a2⟩ := event_out n h1
        refine ev_pos h1 ?_
        rw [event_in n a1 a2]
        exact Ev.bind (is_ev 1 (by omega) [numP n] (by rw [num_len]; omega) n ⟨#[]⟩ (of_event n a1 a2)) (ev_pos rfl nm)
      · exact ev_neg h1 nm
    by_cases h1 : (runS n).2 = 0
    · obtain ⟨a1, a2⟩ := run_out n h1
      refine ev_pos h1 ?_
      rw [run_in n a1 a2]
      exact Ev.bind (is_ev 4 (by omega) [numP n] (by rw [num_len]; omega) n ⟨#[]⟩ (of_run n a1 a2)) (ev_pos rfl evt)
    · exact ev_neg h1 evt
theorem KeysBack_walk (w : World) (a0 : Int) (g0_ : (Lit.int .i64 a0).wf = true) (a1 : ByteArray) (g1_ : a1.size ≤ 140737488351232) :
    Calls Tryd.prog 12 #[.int .i64 a0, .string a1] w fun e w' => e = .returned (.bool true) ∧ Below w.heap.size w w' := by
  obtain ⟨k, h⟩ := (KeysBack_ev a0 a1).rounds
  exact millhandlaw22_KeysBack.calls k a0 a1 true w h
end Go.Proofs.YtagdmgjdhbmaiaaDoor.R

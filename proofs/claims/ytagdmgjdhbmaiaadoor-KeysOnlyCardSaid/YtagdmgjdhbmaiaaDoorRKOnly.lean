/- What is told as a key is that key. -/
import Derived.Test.YtagdmgjdhbmaiaaDoorRx25
import Derived.Test.YtagdmgjdhbmaiaaDoorRx20
import Derived.Test.YtagdmgjdhbmaiaaDoorRx24
import Derived.Test.YtagdmgjdhbmaiaaDoorRKOf
namespace Go.Proofs.YtagdmgjdhbmaiaaDoor.R
open Go.RowKit Go.Proofs.YtagdmgjdhbmaiaaDoorW.PrintWords Go.Proofs.YtagdmgjdhbmaiaaDoorW.PrintLast Go.Proofs.YtagdmgjdhbmaiaaDoorW.PrintMore Go.Proofs.YtagdmgjdhbmaiaaDoor.Plain
set_option linter.unusedVariables false
set_option linter.unusedSimpArgs false
theorem keysAlive_ev : Ev (fun k => millhandlaw22_alive.f k) true := Ev.of millhandlaw22_alive.mono (k := 40) (by decide +kernel)
theorem keys_Head_ev : Ev (fun k => keys_Head.f k) (keyOf 2 []) := by
  unfold keys_Head.f
  refine Ev.bind (made_ev 2 (by omega) [] (by simp)) ?_
  rw [made_head]
  exact Ev.now _
theorem beq_self_bytes (s : ByteArray) : (s.toList == s.toList) = true := by simp
theorem KeysOnly_ev (s : ByteArray) : Ev (fun k => millhandlaw22_KeysOnly.f k s) true := by
  unfold millhandlaw22_KeysOnly.f
  refine Ev.bind keysAlive_ev ?_
  by_cases h5 : (s.size : Int) > 5000
  · exact ev_pos h5 (Ev.step (fun _ => millhandlaw22_KeysOnly.j0.eq_2 ..) (ev_pos rfl (Ev.now _)))
  · refine ev_neg h5 (Ev.step (fun _ => millhandlaw22_KeysOnly.j0.eq_2 ..) (ev_neg (by decide) (Ev.bind (keys_Of_ev s) ?_)))
    by_cases h : (ofS s).2.2.2 = 0
    · refine ev_pos h (Ev.bind keys_Head_ev ?_)
      obtain ⟨n, h0, h1, hs, ho⟩ | ⟨n, h0, h1, hs, ho⟩ | ⟨t, h0, h1, hs, ho⟩ | ⟨hs, ho⟩ := of_only s h
      · rw [ho]
        refine ev_pos rfl (Ev.bind (run_ev n) ?_)
        rw [run_in n h0 h1, ← hs]
        exact ev_pos rfl (ev_some (beq_self_bytes s))
      · rw [ho]
        refine ev_neg (by show ¬ (1 : Int) = 4; omega) (ev_pos rfl (Ev.bind (event_ev n) ?_))
        rw [event_in n h0 h1, ← hs]
        exact ev_pos rfl (ev_some (beq_self_bytes s))
      · rw [ho]
        refine ev_neg (by show ¬ (3 : Int) = 4; omega) (ev_neg (by show ¬ (3 : Int) = 1; omega) (ev_pos rfl (Ev.bind (name_ev t) ?_)))
        rw [name_in t h0 h1, ← hs]
        exact ev_pos rfl (ev_some (beq_self_bytes s))
      · rw [ho]
        refine ev_neg (by show ¬ (2 : Int) = 4; omega) (ev_neg (by show ¬ (2 : Int) = 1; omega) (ev_neg (by show ¬ (2 : Int) = 3; omega) (ev_pos rfl ?_)))
        rw [← hs]
        exact ev_some (beq_self_bytes s)
    · refine ev_neg h ?_
      rw [of_bad s h]
      exact ev_pos rfl (ev_pos rfl (ev_some (by show ((⟨#[]⟩ : ByteArray).toList == []) = true; rw [ByteArray.toList_eq]; rfl)))
theorem KeysOnly_walk (w : World) (a0 : ByteArray) (g0_ : a0.size ≤ 140737488351232) :
    Calls Tryd.prog 10 #[.string a0] w fun e w' => e = .returned (.bool true) ∧ Below w.heap.size w w' := by
  obtain ⟨k, h⟩ := (KeysOnly_ev a0).rounds
  exact millhandlaw22_KeysOnly.calls k a0 true w h
end Go.Proofs.YtagdmgjdhbmaiaaDoor.R

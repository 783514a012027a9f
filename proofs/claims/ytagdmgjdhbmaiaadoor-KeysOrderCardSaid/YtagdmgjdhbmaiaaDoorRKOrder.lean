/- Keys stand as they should. -/
import Derived.Test.YtagdmgjdhbmaiaaDoorRx21
import Derived.Test.YtagdmgjdhbmaiaaDoorRx20
import Derived.Test.YtagdmgjdhbmaiaaDoorRKOf
namespace Go.Proofs.YtagdmgjdhbmaiaaDoor.R
open Go.RowKit Go.Proofs.YtagdmgjdhbmaiaaDoorW.PrintWords Go.Proofs.YtagdmgjdhbmaiaaDoorW.PrintLast Go.Proofs.YtagdmgjdhbmaiaaDoorW.PrintMore Go.Proofs.YtagdmgjdhbmaiaaDoor.Plain
set_option linter.unusedVariables false
set_option linter.unusedSimpArgs false
theorem keysAlive_ev : Ev (fun k => millhandlaw22_alive.f k) true := Ev.of millhandlaw22_alive.mono (k := 40) (by decide +kernel)
/-- How two texts stand. -/
def Tri (a b : ByteArray) (lt eq : Bool) : Prop := (lt = true ∧ eq = false ∧ DLt a.data.toList b.data.toList) ∨ (lt = false ∧ eq = true ∧ a = b) ∨ (lt = false ∧ eq = false ∧ DLt b.data.toList a.data.toList)
theorem beq_bytes (a b : ByteArray) : (a.toList == b.toList) = decide (a.data.toList = b.data.toList) := by
  rw [ByteArray.toList_eq, ByteArray.toList_eq, Bool.eq_iff_iff]
  simp
theorem Tri.lt {a b : ByteArray} {lt eq : Bool} (h : Tri a b lt eq) : Op.bytesLess a.toList b.toList = lt := by
  rw [ByteArray.toList_eq, ByteArray.toList_eq]
  obtain ⟨rfl, _, h⟩ | ⟨rfl, _, rfl⟩ | ⟨rfl, _, h⟩ := h
  · exact h.less
  · exact less_irr _
  · exact h.nless
theorem Tri.eq {a b : ByteArray} {lt eq : Bool} (h : Tri a b lt eq) : (a.toList == b.toList) = eq := by
  rw [beq_bytes]
  obtain ⟨_, rfl, h⟩ | ⟨_, rfl, rfl⟩ | ⟨_, rfl, h⟩ := h
  · exact decide_eq_false h.ne
  · exact decide_eq_true rfl
  · exact decide_eq_false h.ne.symm
theorem Tri.begins {a b : ByteArray} {lt eq : Bool} (h : Tri a b lt eq) : millhandlaw22_begins.f a b = some false := by
  unfold millhandlaw22_begins.f
  by_cases hz : (a.size : Int) < (b.size : Int)
  · rw [if_pos hz, if_pos (by omega), if_pos (by omega)]
    congr 1
    have ha := Lib.size_eq a
    have he : (b.extract 0 ((a.size : Int)).toNat).data.toList = b.data.toList.take a.data.toList.length := by
      rw [Lib.extract_data]
      simp
    rw [beq_bytes, he]
    obtain ⟨_, _, h⟩ | ⟨_, _, rfl⟩ | ⟨_, _, h⟩ := h
    · exact decide_eq_false h.take_ne.1
    · omega
    · exact decide_eq_false h.take_ne.2
  · rw [if_neg hz]
theorem key_dlt (kind : Int) (p q : PartT) (hp : okP p) (hq : okP q) (h : partLt p q) : DLt (keyOf kind [p]).data.toList (keyOf kind [q]).data.toList := by
  unfold keyOf
  have := part_dlt p q hp hq h [] []
  rw [keyU_cons, keyU_cons, keyU_cons, keyU_cons]
  exact this.pre _
theorem num_lt {n m : Int} (h : n < m) : partLt (numP n) (numP m) := by
  unfold partLt
  rw [if_pos (show (numP n).f0 = (numP m).f0 from rfl)]
  exact Or.inl h
theorem name_lt {s t : ByteArray} (h : Op.bytesLess s.toList t.toList = true) : partLt (nameP s) (nameP t) := by
  unfold partLt
  rw [if_pos (show (nameP s).f0 = (nameP t).f0 from rfl)]
  exact Or.inr h
theorem num_tri (kind n m : Int) (h0 : 0 ≤ n) (h1 : n ≤ 1099511627776) (h2 : 0 ≤ m) (h3 : m ≤ 1099511627776) : Tri (keyOf kind [numP n]) (keyOf kind [numP m]) (decide (n < m)) (n == m) := by
  have hn := num_ok n h0 h1 _ (List.mem_singleton.mpr rfl)
  have hm := num_ok m h2 h3 _ (List.mem_singleton.mpr rfl)
  by_cases h : n < m
  · exact Or.inl ⟨decide_eq_true h, by rw [beq_eq_false_iff_ne]; omega, key_dlt kind _ _ hn hm (num_lt h)⟩
  · by_cases e : n = m
    · subst e
      exact Or.inr (Or.inl ⟨decide_eq_false h, by simp, rfl⟩)
    · exact Or.inr (Or.inr ⟨decide_eq_false h, by rw [beq_eq_false_iff_ne]; omega, key_dlt kind _ _ hm hn (num_lt (by omega))⟩)
theorem name_tri (kind : Int) (s t : ByteArray) : Tri (keyOf kind [nameP s]) (keyOf kind [nameP t]) (Op.bytesLess s.toList t.toList) (s.toList == t.toList) := by
  have hn := name_ok s _ (List.mem_singleton.mpr rfl)
  have hm := name_ok t _ (List.mem_singleton.mpr rfl)
  cases h : Op.bytesLess s.toList t.toList with
  | true =>
    refine Or.inl ⟨rfl, ?_, key_dlt kind _ _ hn hm (name_lt h)⟩
    rw [beq_bytes]
    refine decide_eq_false fun e => ?_
    rw [ByteArray.toList_eq, ByteArray.toList_eq, e, less_irr] at h
    exact absurd h (by decide)
  | false =>
    by_cases e : s = t
    · subst e
      exact Or.inr (Or.inl ⟨rfl, by simp, rfl⟩)
    · refine Or.inr (Or.inr ⟨rfl, ?_, key_dlt kind _ _ hm hn (name_lt ?_)⟩)
      · rw [beq_bytes]
        exact decide_eq_false (ba_ne e)
      · refine less_total _ _ ?_ h
        rw [ByteArray.toList_eq, ByteArray.toList_eq]
        exact ba_ne e
theorem KeysOrder_j1 (n m : Int) (s t : ByteArray) (hm : True) : Ev (fun k => millhandlaw22_KeysOrder.j1 k n m s t (eventS n).1 (eventS n).2 (eventS m).1 (eventS m).2 (nameS s).1 (nameS s).2 (nameS t).1 (nameS t).2 false) true := by
  refine Ev.step (fun _ => millhandlaw22_KeysOrder.j1.eq_2 ..) (ev_neg (by decide) ?_)
  have names : Ev (fun k => if (nameS s).2 = 0 then if (nameS t).2 = 0 then if ((Op.bytesLess (nameS s).1.toList (nameS t).1.toList) == (Op.bytesLess s.toList t.toList)) = true then if (((nameS s).1.toList == (nameS t).1.toList) == (s.toList == t.toList)) = true then (millhandlaw22_begins.f (nameS s).1 (nameS t).1).bind fun b => some (!b) else some false else some false else some true else some true) true := by
    by_cases h1 : (nameS s).2 = 0
    · by_cases h2 : (nameS t).2 = 0
      · obtain ⟨a1, a2⟩ := name_out s h1
        obtain ⟨b1, b2⟩ := name_out t h2
        have T := name_tri 3 s t
        rw [name_in s a1 a2, name_in t b1 b2]
        refine ev_pos rfl (ev_pos rfl (ev_pos (by rw [T.lt]; simp) (ev_pos (by rw [T.eq]; simp) ?_)))
        simp only [T.begins, Option.bind_some]
        exact Ev.now _
      · exact ev_pos h1 (ev_neg h2 (Ev.now _))
    · exact ev_neg h1 (Ev.now _)
  by_cases h1 : (eventS n).2 = 0
  · by_cases h2 : (eventS m).2 = 0
    · obtain ⟨a1, a2⟩ := event_out n h1
      obtain ⟨b1, b2⟩ := event_out m h2
      have T := num_tri 1 n m (by omega) a2 (by omega) b2
      refine ev_pos h1 (ev_pos h2 ?_)
      rw [event_in n a1 a2, event_in m b1 b2]
      refine ev_neg (by rw [T.lt]; simp) (ev_neg (by rw [T.eq]; simp) ?_)
      simp only [T.begins, Option.bind_some]
      exact ev_neg (by decide) names
    · exact ev_pos h1 (ev_neg h2 names)
  · exact ev_neg h1 names
theorem KeysOrder_ev (n m : Int) (s t : ByteArray) : Ev (fun k => millhandlaw22_KeysOrder.f k n m s t) true := by
  unfold millhandlaw22_KeysOrder.f
  refine Ev.bind keysAlive_ev ?_
  by_cases h5 : (s.size : Int) > 5000
  · exact ev_pos h5 (Ev.step (fun _ => millhandlaw22_KeysOrder.j0.eq_2 ..) (ev_pos rfl (Ev.now _)))
  · refine ev_neg h5 ?_
    by_cases h6 : (t.size : Int) > 5000
    · exact ev_pos h6 (Ev.step (fun _ => millhandlaw22_KeysOrder.j0.eq_2 ..) (ev_pos rfl (Ev.now _)))
    · refine ev_neg h6 (Ev.step (fun _ => millhandlaw22_KeysOrder.j0.eq_2 ..) (ev_neg (by decide) ?_))
      refine Ev.bind (run_ev n) (Ev.bind (run_ev m) (Ev.bind (event_ev n) (Ev.bind (event_ev m) (Ev.bind (name_ev s) (Ev.bind (name_ev t) ?_)))))
      by_cases h1 : (runS n).2 = 0
      · by_cases h2 : (runS m).2 = 0
        · obtain ⟨a1, a2⟩ := run_out n h1
          obtain ⟨b1, b2⟩ := run_out m h2
          have T := num_tri 4 n m a1 a2 b1 b2
          refine ev_pos h1 (ev_pos h2 ?_)
          rw [run_in n a1 a2, run_in m b1 b2]
          refine ev_neg (by rw [T.lt]; simp) (ev_neg (by rw [T.eq]; simp) ?_)
          simp only [T.begins, Option.bind_some]
          exact KeysOrder_j1 n m s t trivial
        · exact ev_pos h1 (ev_neg h2 (KeysOrder_j1 n m s t trivial))
      · exact ev_neg h1 (KeysOrder_j1 n m s t trivial)
theorem KeysOrder_walk (w : World) (a0 : Int) (g0_ : (Lit.int .i64 a0).wf = true) (a1 : Int) (g1_ : (Lit.int .i64 a1).wf = true) (a2 : ByteArray) (g2_ : a2.size ≤ 140737488351232) (a3 : ByteArray) (g3_ : a3.size ≤ 140737488351232) :
    Calls Tryd.prog 9 #[.int .i64 a0, .int .i64 a1, .string a2, .string a3] w fun e w' => e = .returned (.bool true) ∧ Below w.heap.size w w' := by
  obtain ⟨k, h⟩ := (KeysOrder_ev a0 a1 a2 a3).rounds
  exact millhandlaw22_KeysOrder.calls k a0 a1 a2 a3 true w h
end Go.Proofs.YtagdmgjdhbmaiaaDoor.R

/- Whatever is done to a task is what the document says. -/
import Derived.Test.YtbgfjhnbmfgccaaRx26
import Derived.Test.YtbgfjhnbmfgccaaRTK
import Derived.Test.YtbgfjhnbmfgccaaROp
namespace Go.Proofs.Ytbgfjhnbmfgccaa.R
open Go.RowKit Go.Proofs.YtbgfjhnbmfgccaaW.PrintWords Go.Proofs.Ytbgfjhnbmfgccaa.Plain Go.Proofs.Ytbgfjhnbmfgccaa.Opens
set_option linter.unusedVariables false
theorem and5 (a b c d e : Int) : (a == a && (b == b && (c == c && (d == d && (e == e))))) = true := by simp
theorem TaskGoes_ev (l : List Int) (nt nw s tr un tk rk a b : Int) (hs : 0 ≤ s) : Ev (fun k => millhandlaw24_TaskGoes.f k l nt nw s tr un tk rk a b) true := by
  unfold millhandlaw24_TaskGoes.f
  by_cases hl : (l.length : Int) > 1000
  · exact ev_pos hl (Ev.now _)
  refine ev_neg hl ?_
  refine Ev.bind (ev_at 2 fun k => open_eq k l nt nw s tr un tk rk a) (Ev.bind (ev_at 3 fun k => rOpen_eq k l nt nw s tr un tk rk a hs) ?_)
  refine Ev.bind (ev_at 2 fun k => lease_eq k l nt nw s tr un tk rk a b) (Ev.bind (ev_at 3 fun k => rLease_eq k l nt nw s tr un tk rk a b hs) ?_)
  refine Ev.bind (ev_at 2 fun k => done_eq k l nt nw s tr un tk rk a) (Ev.bind (ev_at 3 fun k => rDone_eq k l nt nw s tr un tk rk a hs) ?_)
  refine Ev.bind (fail_ev l nt nw s tr un tk rk a b) (Ev.bind (rFail_ev l nt nw s tr un tk rk a b hs) ?_)
  refine Ev.bind (ev_at 2 fun k => beat_eq k l nt nw s tr un tk rk a b) (Ev.bind (ev_at 3 fun k => rBeat_eq k l nt nw s tr un tk rk a b hs) ?_)
  refine Ev.bind (ev_at 2 fun k => wake_eq k l nt nw s tr un tk rk a b) (Ev.bind (ev_at 3 fun k => rWake_eq k l nt nw s tr un tk rk a b hs) ?_)
  refine Ev.bind (lapse_ev l nt nw s tr un tk rk b) (Ev.bind (rLapse_ev l nt nw s tr un tk rk b hs) ?_)
  refine Ev.bind (ev_at 2 fun k => drop_eq k l nt nw s tr un tk rk) (Ev.bind (ev_at 3 fun k => rDrop_eq k l nt nw s tr un tk rk hs) ?_)
  refine Ev.bind (Pause_evS l nt nw a) (Ev.bind (rPause_ev l nt nw a) ?_)
  refine ev_pos (and5 ..) (ev_pos rfl (ev_pos (and5 ..) (ev_pos rfl (ev_pos (and5 ..) (ev_pos rfl (ev_pos (and5 ..) (ev_pos rfl (ev_pos (and5 ..) ?_))))))))
  rw [beq_self_eq_true]
  refine Ev.step (fun _ => millhandlaw24_TaskGoes.j0.eq_2 ..) ?_
  refine ev_pos (and5 ..) (ev_pos rfl (ev_pos (and5 ..) (ev_pos rfl (ev_pos (and5 ..) (ev_pos rfl (ev_pos rfl ?_))))))
  rw [beq_self_eq_true]
  refine Ev.step (fun _ => millhandlaw24_TaskGoes.j1.eq_2 ..) (ev_pos rfl (ev_pos rfl ?_))
  refine Ev.bind (check_ev l nt nw s tr un tk rk) (Ev.bind (ev_at 3 fun k => rcheck_eq k l nt nw s tr un tk rk hs) (ev_pos rfl ?_))
  rw [due_eq, rDue_eq]
  exact Ev.bind (Ev.now _) (Ev.bind (Ev.now _) (ev_some (beq_self_eq_true _)))

theorem node_open {w : World} {x : S24} {cs : Array Value} (h : k24.K w x cs.toList) : ∃ A c, cs = #[.slice A x.f0.length c, .int .i64 x.f1, .int .i64 x.f2] ∧ x.f0.length ≤ c ∧ Kd.C (Kd.int .i64) w A x.f0.length x.f0 := by
  obtain ⟨_, _, hcs, ⟨A, c, rfl, hle, hC⟩, ⟨_, _, rfl, rfl, rfl⟩⟩ := h
  refine ⟨A, c, ?_, hle, hC⟩
  cases cs
  simpa using hcs
theorem task_open {w : World} {x : S31} {cs : Array Value} (h : k31.K w x cs.toList) : cs = #[.int .u8 x.f0, .int .i64 x.f1, .int .i64 x.f2, .int .i64 x.f3, .int .i64 x.f4] := by
  obtain ⟨_, _, hcs, rfl, ⟨_, _, rfl, rfl, ⟨_, _, rfl, rfl, ⟨_, _, rfl, rfl, rfl⟩⟩⟩⟩ := h
  cases cs
  simpa using hcs
theorem TaskGoes_walk (w : World) (x0 : S24) (cs0 : Array Value) (r0 : k24.K w x0 cs0.toList) (g0_ : g24 x0) (x1 : S31) (cs1 : Array Value) (r1 : k31.K w x1 cs1.toList) (g1_ : g31 x1) (a2 : Int) (g2_ : (Lit.int .i64 a2).wf = true) (a3 : Int) (g3_ : (Lit.int .i64 a3).wf = true) :
    Calls Try.prog 6 #[.agg cs0, .agg cs1, .int .i64 a2, .int .i64 a3] w fun e w' => e = .returned (.bool true) ∧ Below w.heap.size w w' := by
  obtain ⟨A, c, rfl, hle, hC⟩ := node_open r0
  obtain rfl := task_open r1
  have hs : 0 ≤ x1.f0 := (wfu8.mp g1_.1).1
  obtain ⟨k, h⟩ := (TaskGoes_ev x0.f0 x0.f1 x0.f2 x1.f0 x1.f1 x1.f2 x1.f3 x1.f4 a2 a3 hs).rounds
  exact millhandlaw24_TaskGoes.calls k A c x0.f0 x0.f1 x0.f2 x1.f0 x1.f1 x1.f2 x1.f3 x1.f4 a2 a3 true w hC hle h hs
end Go.Proofs.Ytbgfjhnbmfgccaa.R

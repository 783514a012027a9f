/- What the Go functions of TaskPauses come to, in plain words. -/
import Derived.Test.YtbgfjhnbmfgccaaQx9
import Derived.Test.YtbgfjhnbmfgccaaQx8
import Derived.Test.YtbgfjhnbmfgccaaPlain
import Derived.Test.YtbgfjhnbmfgccaaQOp
namespace Go.Proofs.Ytbgfjhnbmfgccaa.Q
open Go.RowKit Go.Proofs.YtbgfjhnbmfgccaaW.PrintWords Go.Proofs.Ytbgfjhnbmfgccaa.Plain
set_option linter.unusedVariables false

def nodeS (tries wait : Int) : Bool := decide (1 ≤ tries ∧ tries ≤ 5 ∧ 0 ≤ wait ∧ wait ≤ 1048576)
theorem task_node_eq (l : List Int) (tries wait : Int) : task_node.f l tries wait = some (nodeS tries wait) := by
  unfold task_node.f nodeS
  repeat' split
  all_goals (congr 1; rw [Bool.eq_iff_iff]; simp; omega)
def pauseN : Nat → Int → Int
  | 0, w => w
  | m + 1, w => pauseN m (min (2 * w) 1048576)
theorem pauseN_succ : ∀ (m : Nat) (w : Int), pauseN (m + 1) w = min (2 * pauseN m w) 1048576
  | 0, w => rfl
  | m + 1, w => by rw [pauseN, pauseN_succ m, pauseN]
theorem pauseN_range : ∀ (m : Nat) (w : Int), 0 ≤ w → w ≤ 1048576 → 0 ≤ pauseN m w ∧ pauseN m w ≤ 1048576
  | 0, w, h0, h1 => ⟨h0, h1⟩
  | m + 1, w, h0, h1 => pauseN_range m _ (by omega) (by omega)
theorem task_pause_l0 : ∀ (m : Nat) (i w : Int), 0 ≤ i → i + m ≤ 1000 → 0 ≤ w → w ≤ 1048576 → Ev (fun k => task_pause.l0 k (i + m) w i) (pauseN m w)
  | 0, i, w, hi, hm, h0, h1 => Ev.step (fun _ => task_pause.l0.eq_2 ..) (ev_neg (by omega) (ev_some rfl))
  | m + 1, i, w, hi, hm, h0, h1 => by
    refine Ev.step (fun _ => task_pause.l0.eq_2 ..) (ev_pos (by omega) ?_)
    have e : mn (wrap64 (2 * w)) 1048576 = min (2 * w) 1048576 := by
      unfold mn
      rw [w64 (by omega) (by omega)]
      split <;> omega
    rw [e, w64 (by omega) (by omega)]
    have ih := task_pause_l0 m (i + 1) (min (2 * w) 1048576) (by omega) (by omega) (by omega) (by omega)
    rw [show i + ((m + 1 : Nat) : Int) = i + 1 + m by omega]
    exact ih
theorem task_Pause_ev (l : List Int) (tries wait : Int) (h : nodeS tries wait = true) (m : Nat) (hm : m < 5) : Ev (fun k => task_Pause.f k l tries wait ((m : Int) + 1)) (pauseN m wait, 0) := by
  unfold task_Pause.f
  rw [task_node_eq, h]
  simp only [Option.bind_some]
  refine ev_pos (by simp) (ev_neg (by omega) (ev_neg (by omega) ?_))
  have hb := of_decide_eq_true h
  refine Ev.bind (a := pauseN m wait) ?_ (Ev.now _)
  unfold task_pause.f
  have := task_pause_l0 m 1 wait (by omega) (by omega) (by omega) (by omega)
  rwa [show (1 : Int) + (m : Int) = (m : Int) + 1 by omega] at this
theorem TaskPauses_l0 (l : List Int) (tries wait : Int) (h : nodeS tries wait = true) : ∀ (d m : Nat), m + d = 4 → Ev (fun k => millhandlaw24_TaskPauses.l0 k (pauseN m wait) ((m : Int) + 2) l tries wait) true
  | 0, m, hm => Ev.step (fun _ => millhandlaw24_TaskPauses.l0.eq_2 ..) (ev_neg (by omega) (Ev.now _))
  | d + 1, m, hm => by
    refine Ev.step (fun _ => millhandlaw24_TaskPauses.l0.eq_2 ..) (ev_pos (by omega) ?_)
    have hp := task_Pause_ev l tries wait h (m + 1) (by omega)
    rw [show ((m + 1 : Nat) : Int) + 1 = (m : Int) + 2 by omega] at hp
    refine Ev.bind hp (ev_pos rfl ?_)
    have hb := of_decide_eq_true h
    have h0 := pauseN_range m wait (by omega) (by omega)
    have h1 := pauseN_range (m + 1) wait (by omega) (by omega)
    have hs := pauseN_succ m wait
    have ih := TaskPauses_l0 l tries wait h d (m + 1) (by omega)
    rw [show ((m + 1 : Nat) : Int) + 2 = (m : Int) + 2 + 1 by omega] at ih
    refine ev_neg (by show ¬ pauseN (m + 1) wait < pauseN m wait; omega) (ev_neg (by show ¬ pauseN (m + 1) wait > 1048576; omega) ?_)
    rw [w64 (i := 2 * pauseN m wait) (by omega) (by omega), w64 (by omega) (by omega)]
    by_cases he : pauseN (m + 1) wait = 2 * pauseN m wait
    · exact ev_pos he ih
    · exact ev_neg he (ev_pos (by show pauseN (m + 1) wait = 1048576; omega) ih)
theorem alive_ev : Ev (fun k => millhandlaw24_alive.f k) true := Ev.of millhandlaw24_alive.mono (k := 10) (by decide +kernel)
theorem TaskPauses_ev (l : List Int) (tries wait : Int) : Ev (fun k => millhandlaw24_TaskPauses.f k l tries wait) true := by
  unfold millhandlaw24_TaskPauses.f
  refine Ev.bind alive_ev ?_
  by_cases hl : (l.length : Int) > 1000
  · exact ev_pos hl (Ev.step (fun _ => millhandlaw24_TaskPauses.j0.eq_2 ..) (ev_pos rfl (Ev.now _)))
  · refine ev_neg hl (Ev.step (fun _ => millhandlaw24_TaskPauses.j0.eq_2 ..) (ev_neg (by simp) ?_))
    by_cases h : nodeS tries wait = true
    · have hp := task_Pause_ev l tries wait h 0 (by omega)
      refine Ev.bind hp (ev_pos rfl ?_)
      exact TaskPauses_l0 l tries wait h 4 0 (by omega)
    · have hp : Ev (fun k => task_Pause.f k l tries wait 1) (0, 8) := by
        unfold task_Pause.f
        rw [task_node_eq]
        simp only [Option.bind_some]
        exact ev_neg h (Ev.now _)
      exact Ev.bind hp (ev_neg (by simp) (Ev.now _))

theorem node_open {w : World} {x : S24} {cs : Array Value} (h : k24.K w x cs.toList) : ∃ A c, cs = #[.slice A x.f0.length c, .int .i64 x.f1, .int .i64 x.f2] ∧ x.f0.length ≤ c ∧ Kd.C (Kd.int .i64) w A x.f0.length x.f0 := by
  obtain ⟨_, _, hcs, ⟨A, c, rfl, hle, hC⟩, ⟨_, _, rfl, rfl, rfl⟩⟩ := h
  refine ⟨A, c, ?_, hle, hC⟩
  cases cs
  simpa using hcs
theorem TaskPauses_walk (w : World) (x0 : S24) (cs0 : Array Value) (r0 : k24.K w x0 cs0.toList) (g0_ : g24 x0) :
    Calls Try.prog 3 #[.agg cs0] w fun e w' => e = .returned (.bool true) ∧ Below w.heap.size w w' := by
  obtain ⟨A, c, rfl, hle, hC⟩ := node_open r0
  obtain ⟨k, h⟩ := (TaskPauses_ev x0.f0 x0.f1 x0.f2).rounds
  exact millhandlaw24_TaskPauses.calls k A c x0.f0 x0.f1 x0.f2 true w hC hle h
end Go.Proofs.Ytbgfjhnbmfgccaa.Q

/- Tasks in plain words: what the program's and the document's functions tell. -/
import Derived.Test.YtbgfjhnbmfgccaaRx11
import Derived.Test.YtbgfjhnbmfgccaaRx10
import Derived.Test.YtbgfjhnbmfgccaaRx7
import Derived.Test.YtbgfjhnbmfgccaaRx4
import Derived.Test.YtbgfjhnbmfgccaaRx5
import Derived.Test.YtbgfjhnbmfgccaaRx9
import Derived.Test.YtbgfjhnbmfgccaaRx14
import Derived.Test.YtbgfjhnbmfgccaaRx0
import Derived.Test.YtbgfjhnbmfgccaaPlain
namespace Go.Proofs.Ytbgfjhnbmfgccaa.R
open Go.RowKit Go.Proofs.YtbgfjhnbmfgccaaW.PrintWords Go.Proofs.Ytbgfjhnbmfgccaa.Plain
set_option linter.unusedVariables false

/-! ### tasks in plain words -/
theorem ev_at {α : Type} {g : Nat → Option α} {r : α} (n : Nat) (h : ∀ k, g (k + n) = some r) : Ev g r := ⟨n, fun k hk => by
  obtain ⟨m, rfl⟩ : ∃ m, k = m + n := ⟨k - n, by omega⟩
  exact h m⟩
def momS (x : Int) : Bool := decide (0 ≤ x ∧ x ≤ 1099511627776)
theorem moment_eq (x : Int) : task_moment.f x = some (momS x) := by
  unfold task_moment.f momS
  split
  · congr 1; rw [decide_eq_decide]; omega
  · congr 1; symm; rw [decide_eq_false_iff_not]; omega
theorem count_eq (x : Int) : task_count.f x = some (momS x) := by
  unfold task_count.f momS
  split
  · congr 1; rw [decide_eq_decide]; omega
  · congr 1; symm; rw [decide_eq_false_iff_not]; omega
def nodeS (tries wait : Int) : Bool := decide (1 ≤ tries ∧ tries ≤ 5 ∧ 0 ≤ wait ∧ wait ≤ 1048576)
theorem task_node_eq (l : List Int) (tries wait : Int) : task_node.f l tries wait = some (nodeS tries wait) := by
  unfold task_node.f nodeS
  repeat' split
  all_goals (congr 1; rw [Bool.eq_iff_iff]; simp; omega)
abbrev ShapeP (nt s tr un tk rk : Int) : Prop :=
  (s = 0 ∧ tr = 0 ∧ un = 0 ∧ tk = 0 ∧ rk = 0) ∨ (s = 1 ∧ tr < nt ∧ un = 0 ∧ tk = 0) ∨ (s = 2 ∧ 1 ≤ tr ∧ 1 ≤ tk ∧ rk = 0) ∨ (s = 3 ∧ 1 ≤ tr ∧ tr < nt ∧ tk = 0 ∧ rk = 0) ∨
  (s = 4 ∧ 1 ≤ tr ∧ un = 0 ∧ tk = 0 ∧ rk = 0) ∨ (s = 5 ∧ tr = nt ∧ un = 0 ∧ tk = 0 ∧ rk = 0) ∨ (s = 6 ∧ un = 0 ∧ tk = 0 ∧ rk = 0)
abbrev BoundP (nt tr un tk rk : Int) : Prop := 0 ≤ tr ∧ tr ≤ nt ∧ 0 ≤ un ∧ un ≤ 1099511627776 ∧ 0 ≤ tk ∧ tk ≤ 1099511627776 ∧ 0 ≤ rk ∧ rk ≤ 1099511627776
def mayS (nt s tr un tk rk : Int) : Bool := decide (BoundP nt tr un tk rk ∧ ShapeP nt s tr un tk rk)
theorem may_j1 (k : Nat) (l : List Int) (nt nw s tr un tk rk : Int) (b : Bool) (hb : b = decide (un = 0 ∧ tk = 0 ∧ rk = 0)) : task_may.j1 (k + 1) b l nt nw s tr un tk rk = some (decide (ShapeP nt s tr un tk rk)) := by
  subst hb
  simp only [task_may.j1]
  repeat' split
  all_goals (congr 1; rw [Bool.eq_iff_iff]; simp; omega)
theorem may_j0 (k : Nat) (l : List Int) (nt nw s tr un tk rk : Int) : task_may.j0 (k + 2) false l nt nw s tr un tk rk = some (decide (ShapeP nt s tr un tk rk)) := by
  simp only [task_may.j0, Bool.false_eq_true, if_false]
  repeat' split
  all_goals (refine may_j1 k l nt nw s tr un tk rk _ ?_; rw [Bool.eq_iff_iff]; simp; omega)
theorem may_t (k : Nat) (l : List Int) (nt nw s tr un tk rk : Int) : task_may.j0 (k + 2) true l nt nw s tr un tk rk = some false := by
  simp only [task_may.j0, if_true]
theorem may_eq (k : Nat) (l : List Int) (nt nw s tr un tk rk : Int) : task_may.f (k + 2) l nt nw s tr un tk rk = some (mayS nt s tr un tk rk) := by
  simp only [task_may.f, moment_eq, count_eq, Option.bind_some]
  by_cases hB : BoundP nt tr un tk rk
  · rw [if_neg (by omega), if_neg (by omega), if_pos (show momS un = true from decide_eq_true (by omega)), if_pos (show momS tk = true from decide_eq_true (by omega))]
    have : momS rk = true := decide_eq_true (by omega)
    rw [this, Bool.not_true, may_j0]
    unfold mayS
    congr 1
    rw [decide_eq_decide]
    exact ⟨fun h => ⟨hB, h⟩, fun h => h.2⟩
  · have hf : mayS nt s tr un tk rk = false := decide_eq_false (fun h => hB h.1)
    rw [hf]
    repeat' split
    all_goals try rw [may_t]
    rename_i h1 h2 h3 h4
    have h3' := of_decide_eq_true h3
    have h4' := of_decide_eq_true h4
    have : momS rk = false := decide_eq_false (fun h => hB (by omega))
    rw [this, Bool.not_false, may_t]
def okS (nt nw s tr un tk rk : Int) : Bool := nodeS nt nw && mayS nt s tr un tk rk
theorem check_eq (k : Nat) (l : List Int) (nt nw s tr un tk rk : Int) : task_Check.f (k + 2) l nt nw s tr un tk rk = some (if okS nt nw s tr un tk rk then 0 else 8) := by
  simp only [task_Check.f, task_node_eq, may_eq, Option.bind_some, okS]
  by_cases h1 : nodeS nt nw = true <;> by_cases h2 : mayS nt s tr un tk rk = true <;> simp [h1, h2]
/-- The error of a task, of numbers, of its state. -/
def inS (nt nw s tr un tk rk : Int) (fit : Bool) (st : Int) : Int := if okS nt nw s tr un tk rk then (if fit then (if s = st then 0 else 240) else 2) else 8
theorem in_eq (k : Nat) (l : List Int) (nt nw s tr un tk rk : Int) (fit : Bool) (st : Int) : task_in.f (k + 2) l nt nw s tr un tk rk fit st = some (inS nt nw s tr un tk rk fit st) := by
  simp only [task_in.f, task_asked.f, check_eq, Option.bind_some, inS]
  cases okS nt nw s tr un tk rk <;> cases fit <;> by_cases h : s = st <;> simp [h]
def heldS (nt nw s tr un tk rk : Int) (fit : Bool) (a : Int) : Int :=
  if inS nt nw s tr un tk rk (fit && decide (1 ≤ a) && momS a) 2 = 0 then (if tk = a then 0 else 260) else inS nt nw s tr un tk rk (fit && decide (1 ≤ a) && momS a) 2
theorem held_eq (k : Nat) (l : List Int) (nt nw s tr un tk rk : Int) (fit : Bool) (a : Int) : task_held.f (k + 2) l nt nw s tr un tk rk fit a = some (heldS nt nw s tr un tk rk fit a) := by
  simp only [task_held.f, count_eq, in_eq, Option.bind_some, task_held.j0, heldS]
  cases fit
  · simp only [Bool.false_eq_true, if_false, Bool.false_and]
    repeat' split
    all_goals simp_all
  · simp only [if_true, Bool.true_and]
    by_cases h : a ≥ 1
    · rw [if_pos h, decide_eq_true (show 1 ≤ a from h), Bool.true_and]
      repeat' split
      all_goals simp_all
    · rw [if_neg h, decide_eq_false (show ¬ 1 ≤ a by omega), Bool.false_and]
      repeat' split
      all_goals simp_all
abbrev TT := Int × Int × Int × Int × Int × Int
def doneS (nt nw s tr un tk rk a : Int) : TT := if heldS nt nw s tr un tk rk true a = 0 then (4, tr, 0, 0, 0, 0) else (0, 0, 0, 0, 0, heldS nt nw s tr un tk rk true a)
theorem done_eq (k : Nat) (l : List Int) (nt nw s tr un tk rk a : Int) : task_Done.f (k + 2) l nt nw s tr un tk rk a = some (doneS nt nw s tr un tk rk a) := by
  simp only [task_Done.f, held_eq, Option.bind_some, doneS]
  split <;> rfl
def beatS (nt nw s tr un tk rk a b : Int) : TT := if heldS nt nw s tr un tk rk (momS b) a = 0 then (s, tr, b, tk, rk, 0) else (0, 0, 0, 0, 0, heldS nt nw s tr un tk rk (momS b) a)
theorem beat_eq (k : Nat) (l : List Int) (nt nw s tr un tk rk a b : Int) : task_Beat.f (k + 2) l nt nw s tr un tk rk a b = some (beatS nt nw s tr un tk rk a b) := by
  simp only [task_Beat.f, moment_eq, held_eq, Option.bind_some, beatS]
  split <;> rfl
def dueS (s un b : Int) : Bool := (decide (s = 2) || decide (s = 3)) && decide (un ≤ b)
theorem due_eq (s tr un tk rk b : Int) : task_Due.f s tr un tk rk b = some (dueS s un b) := by
  unfold task_Due.f dueS
  repeat' split
  all_goals simp_all
def wakeE (nt nw s tr un tk rk a b : Int) : Int := inS nt nw s tr un tk rk (momS a && momS b) 3
def wakeS (nt nw s tr un tk rk a b : Int) : TT := if wakeE nt nw s tr un tk rk a b = 0 then (if dueS s un b then (1, tr, 0, 0, a, 0) else (0, 0, 0, 0, 0, 240)) else (0, 0, 0, 0, 0, wakeE nt nw s tr un tk rk a b)
theorem wake_eq (k : Nat) (l : List Int) (nt nw s tr un tk rk a b : Int) : task_Wake.f (k + 2) l nt nw s tr un tk rk a b = some (wakeS nt nw s tr un tk rk a b) := by
  simp only [task_Wake.f, count_eq, moment_eq, in_eq, Option.bind_some, task_Wake.j0, due_eq, wakeS, wakeE]
  by_cases h0 : momS a = true
  · simp only [h0, if_true, Bool.true_and]
    repeat' split
    all_goals simp_all
  · rw [Bool.not_eq_true] at h0
    simp only [h0, Bool.false_eq_true, if_false, Bool.false_and]
    repeat' split
    all_goals simp_all
def dropS (nt nw s tr un tk rk : Int) : TT := if okS nt nw s tr un tk rk then (if 4 ≤ s ∧ s ≤ 6 then (0, 0, 0, 0, 0, 240) else (6, tr, 0, 0, 0, 0)) else (0, 0, 0, 0, 0, 8)
theorem drop_eq (k : Nat) (l : List Int) (nt nw s tr un tk rk : Int) : task_Drop.f (k + 2) l nt nw s tr un tk rk = some (dropS nt nw s tr un tk rk) := by
  simp only [task_Drop.f, check_eq, Option.bind_some, dropS]
  cases okS nt nw s tr un tk rk
  · rfl
  · simp only [if_true]
    repeat' split
    all_goals first | rfl | (exfalso; omega) | simp_all
/-! ### pauses -/
def pauseN : Nat → Int → Int
  | 0, w => w
  | m + 1, w => pauseN m (min (2 * w) 1048576)
theorem task_pause_l0 : ∀ (m : Nat) (i w : Int), 0 ≤ i → i + m ≤ 1000 → 0 ≤ w → w ≤ 1048576 → Ev (fun k => task_pause.l0 k (i + m) w i) (pauseN m w)
  | 0, i, w, hi, hm, h0, h1 => Ev.step (fun _ => task_pause.l0.eq_2 ..) (ev_neg (by omega) (ev_some rfl))
  | m + 1, i, w, hi, hm, h0, h1 => by
    refine Ev.step (fun _ => task_pause.l0.eq_2 ..) (ev_pos (by omega) ?_)
    have e : mn (wrap64 (2 * w)) 1048576 = min (2 * w) 1048576 := by
      unfold mn
      rw [w64 (by omega) (by omega)]
      split <;> omega
    rw [e, w64 (by omega) (by omega)]
    have ih := task_pause_l0 m (i + 1) (min (2 * w) 1048576) (by omega) (by omega) (by omega) (by omega)
    rw [show i + ((m + 1 : Nat) : Int) = i + 1 + m by omega]
    exact ih
theorem pause_ev (l : List Int) (nt nw tr : Int) (h0 : 0 ≤ nw) (h1 : nw ≤ 1048576) (t1 : 1 ≤ tr) (t2 : tr ≤ 5) : Ev (fun k => task_pause.f k l nt nw tr) (pauseN (tr - 1).toNat nw) := by
  unfold task_pause.f
  have := task_pause_l0 (tr - 1).toNat 1 nw (by omega) (by omega) h0 h1
  rwa [show (1 : Int) + ((tr - 1).toNat : Int) = tr by omega] at this
def failsS (nt nw tr b : Int) : Int × Int × Int × Int × Int := if tr = nt then (5, tr, 0, 0, 0) else (3, tr, mn (wrap64 (b + pauseN (tr - 1).toNat nw)) 1099511627776, 0, 0)
theorem fails_ev (l : List Int) (nt nw s tr un tk rk b : Int) (h0 : 0 ≤ nw) (h1 : nw ≤ 1048576) (t1 : 1 ≤ tr) (t2 : tr ≤ 5) : Ev (fun k => task_fails.f k l nt nw s tr un tk rk b) (failsS nt nw tr b) := by
  unfold task_fails.f failsS
  by_cases h : tr = nt
  · rw [if_pos h]; exact ev_pos h (Ev.now _)
  · rw [if_neg h]; exact ev_neg h (Ev.bind (pause_ev l nt nw tr h0 h1 t1 t2) (Ev.now _))
def with0 (x : Int × Int × Int × Int × Int) : TT := (x.1, x.2.1, x.2.2.1, x.2.2.2.1, x.2.2.2.2, 0)
theorem node_bounds {nt nw : Int} (h : nodeS nt nw = true) : 1 ≤ nt ∧ nt ≤ 5 ∧ 0 ≤ nw ∧ nw ≤ 1048576 := of_decide_eq_true h
theorem ok_both {nt nw s tr un tk rk : Int} (h : okS nt nw s tr un tk rk = true) : (1 ≤ nt ∧ nt ≤ 5 ∧ 0 ≤ nw ∧ nw ≤ 1048576) ∧ BoundP nt tr un tk rk ∧ ShapeP nt s tr un tk rk := by
  unfold okS at h
  rw [Bool.and_eq_true] at h
  exact ⟨node_bounds h.1, of_decide_eq_true h.2⟩
theorem in_ok {nt nw s tr un tk rk : Int} {fit : Bool} {st : Int} (h : inS nt nw s tr un tk rk fit st = 0) : okS nt nw s tr un tk rk = true ∧ fit = true ∧ s = st := by
  unfold inS at h
  repeat' split at h
  all_goals first | (exfalso; omega) | skip
  rename_i h1 h2 h3
  exact ⟨h1, h2, h3⟩
def lapseS (nt nw s tr un tk rk b : Int) : TT :=
  if inS nt nw s tr un tk rk (momS b) 2 = 0 then (if dueS s un b then with0 (failsS nt nw tr b) else (0, 0, 0, 0, 0, 240)) else (0, 0, 0, 0, 0, inS nt nw s tr un tk rk (momS b) 2)
theorem lapse_ev (l : List Int) (nt nw s tr un tk rk b : Int) : Ev (fun k => task_Lapse.f k l nt nw s tr un tk rk b) (lapseS nt nw s tr un tk rk b) := by
  unfold task_Lapse.f lapseS
  simp only [moment_eq, Option.bind_some, due_eq]
  refine Ev.bind (ev_at 2 fun k => in_eq k l nt nw s tr un tk rk (momS b) 2) ?_
  by_cases h : inS nt nw s tr un tk rk (momS b) 2 = 0
  · rw [if_pos h]
    obtain ⟨h1, _, h3⟩ := in_ok h
    obtain ⟨hn, hb, hs⟩ := ok_both h1
    refine ev_pos h ?_
    by_cases hd : dueS s un b = true
    · rw [if_pos hd]
      exact ev_pos hd (Ev.bind (fails_ev l nt nw s tr un tk rk b (by omega) (by omega) (by omega) (by omega)) (Ev.now _))
    · rw [if_neg hd]
      exact ev_neg hd (Ev.now _)
  · rw [if_neg h]
    exact ev_neg h (Ev.now _)
/-! ### the document's tasks in plain words -/
def pauseS (nt nw a : Int) : Int × Int := if nodeS nt nw then (if a < 1 then (0, 2) else if a > 5 then (0, 2) else (pauseN (a - 1).toNat nw, 0)) else (0, 8)
theorem Pause_evS (l : List Int) (nt nw a : Int) : Ev (fun k => task_Pause.f k l nt nw a) (pauseS nt nw a) := by
  unfold task_Pause.f pauseS
  simp only [task_node_eq, Option.bind_some]
  by_cases h : nodeS nt nw = true
  · rw [if_pos h]
    have hb := node_bounds h
    exact ev_pos h (ev_ite (fun _ => Ev.now _) (fun h1 => ev_ite (fun _ => Ev.now _) (fun h2 => Ev.bind (pause_ev l nt nw a (by omega) (by omega) (by omega) (by omega)) (Ev.now _))))
  · rw [if_neg h]
    exact ev_neg h (Ev.now _)
theorem uniq {α : Type} {g : Nat → Option α} (hm : ∀ k, LeO (g k) (g (k + 1))) {r r' : α} (he : Ev g r) {k : Nat} (h : g k = some r') : r' = r := by
  obtain ⟨K, hK⟩ := he
  have h1 := at_rounds hm (Nat.le_max_left k K) h
  have h2 := hK (max k K) (Nat.le_max_right k K)
  exact Option.some.inj (h1.symm.trans h2)
end Go.Proofs.Ytbgfjhnbmfgccaa.R

/- Tasks in plain words. -/
import Derived.Test.YtbiphljdommacaaRx17
import Derived.Test.YtbiphljdommacaaRx31
import Derived.Test.YtbiphljdommacaaRx19
import Derived.Test.YtbiphljdommacaaRx13
import Derived.Test.YtbiphljdommacaaRx25
import Derived.Test.YtbiphljdommacaaRx9
import Derived.Test.YtbiphljdommacaaRx11
import Derived.Test.YtbiphljdommacaaRx16
import Derived.Test.YtbiphljdommacaaPlain
import Derived.Test.YtbiphljdommacaaRx23
import Derived.Test.YtbiphljdommacaaRx24
import Derived.Test.YtbiphljdommacaaRx30
import Derived.Test.YtbiphljdommacaaRx28
import Derived.Test.YtbiphljdommacaaRx29
namespace Go.Proofs.Ytbiphljdommacaa.R
open Go.RowKit Go.Proofs.YtbiphljdommacaaW.PrintWords Go.Proofs.Ytbiphljdommacaa.Plain
set_option linter.unusedVariables false

/-! ### tasks in plain words -/
theorem ev_at {α : Type} {g : Nat → Option α} {r : α} (n : Nat) (h : ∀ k, g (k + n) = some r) : Ev g r := ⟨n, fun k hk => by
  obtain ⟨m, rfl⟩ : ∃ m, k = m + n := ⟨k - n, by omega⟩
  exact h m⟩
def momS (x : Int) : Bool := decide (0 ≤ x ∧ x ≤ 1099511627776)
theorem moment_eq (x : Int) : task_moment.f x = some (momS x) := by
  unfold task_moment.f momS
  split
  · congr 1; rw [decide_eq_decide]; omega
  · congr 1; symm; rw [decide_eq_false_iff_not]; omega
theorem count_eq (x : Int) : task_count.f x = some (momS x) := by
  unfold task_count.f momS
  split
  · congr 1; rw [decide_eq_decide]; omega
  · congr 1; symm; rw [decide_eq_false_iff_not]; omega
def nodeS (tries wait : Int) : Bool := decide (1 ≤ tries ∧ tries ≤ 5 ∧ 0 ≤ wait ∧ wait ≤ 1048576)
theorem task_node_eq (l : List Int) (tries wait : Int) : task_node.f l tries wait = some (nodeS tries wait) := by
  unfold task_node.f nodeS
  repeat' split
  all_goals (congr 1; rw [Bool.eq_iff_iff]; simp; omega)
abbrev ShapeP (nt s tr un tk rk : Int) : Prop :=
  (s = 0 ∧ tr = 0 ∧ un = 0 ∧ tk = 0 ∧ rk = 0) ∨ (s = 1 ∧ tr < nt ∧ un = 0 ∧ tk = 0) ∨ (s = 2 ∧ 1 ≤ tr ∧ 1 ≤ tk ∧ rk = 0) ∨ (s = 3 ∧ 1 ≤ tr ∧ tr < nt ∧ tk = 0 ∧ rk = 0) ∨
  (s = 4 ∧ 1 ≤ tr ∧ un = 0 ∧ tk = 0 ∧ rk = 0) ∨ (s = 5 ∧ tr = nt ∧ un = 0 ∧ tk = 0 ∧ rk = 0) ∨ (s = 6 ∧ un = 0 ∧ tk = 0 ∧ rk = 0)
abbrev BoundP (nt tr un tk rk : Int) : Prop := 0 ≤ tr ∧ tr ≤ nt ∧ 0 ≤ un ∧ un ≤ 1099511627776 ∧ 0 ≤ tk ∧ tk ≤ 1099511627776 ∧ 0 ≤ rk ∧ rk ≤ 1099511627776
def tmayS (nt s tr un tk rk : Int) : Bool := decide (BoundP nt tr un tk rk ∧ ShapeP nt s tr un tk rk)
theorem may_j1 (k : Nat) (l : List Int) (nt nw s tr un tk rk : Int) (b : Bool) (hb : b = decide (un = 0 ∧ tk = 0 ∧ rk = 0)) : task_may.j1 (k + 1) b l nt nw s tr un tk rk = some (decide (ShapeP nt s tr un tk rk)) := by
  subst hb
  simp only [task_may.j1]
  repeat' split
  all_goals (congr 1; rw [Bool.eq_iff_iff]; simp; omega)
theorem may_j0 (k : Nat) (l : List Int) (nt nw s tr un tk rk : Int) : task_may.j0 (k + 2) false l nt nw s tr un tk rk = some (decide (ShapeP nt s tr un tk rk)) := by
  simp only [task_may.j0, Bool.false_eq_true, if_false]
  repeat' split
  all_goals (refine may_j1 k l nt nw s tr un tk rk _ ?_; rw [Bool.eq_iff_iff]; simp; omega)
theorem may_t (k : Nat) (l : List Int) (nt nw s tr un tk rk : Int) : task_may.j0 (k + 2) true l nt nw s tr un tk rk = some false := by
  simp only [task_may.j0, if_true]
theorem may_eq (k : Nat) (l : List Int) (nt nw s tr un tk rk : Int) : task_may.f (k + 2) l nt nw s tr un tk rk = some (tmayS nt s tr un tk rk) := by
  simp only [task_may.f, moment_eq, count_eq, Option.bind_some]
  by_cases hB : BoundP nt tr un tk rk
  · rw [if_neg (by omega), if_neg (by omega), if_pos (show momS un = true from decide_eq_true (by omega)), if_pos (show momS tk = true from decide_eq_true (by omega))]
    have : momS rk = true := decide_eq_true (by omega)
    rw [this, Bool.not_true, may_j0]
    unfold tmayS
    congr 1
    rw [decide_eq_decide]
    exact ⟨fun h => ⟨hB, h⟩, fun h => h.2⟩
  · have hf : tmayS nt s tr un tk rk = false := decide_eq_false (fun h => hB h.1)
    rw [hf]
    repeat' split
    all_goals try rw [may_t]
    rename_i h1 h2 h3 h4
    have h3' := of_decide_eq_true h3
    have h4' := of_decide_eq_true h4
    have : momS rk = false := decide_eq_false (fun h => hB (by omega))
    rw [this, Bool.not_false, may_t]
def okS (nt nw s tr un tk rk : Int) : Bool := nodeS nt nw && tmayS nt s tr un tk rk
theorem check_eq (k : Nat) (l : List Int) (nt nw s tr un tk rk : Int) : task_Check.f (k + 2) l nt nw s tr un tk rk = some (if okS nt nw s tr un tk rk then 0 else 8) := by
  simp only [task_Check.f, task_node_eq, may_eq, Option.bind_some, okS]
  by_cases h1 : nodeS nt nw = true <;> by_cases h2 : tmayS nt s tr un tk rk = true <;> simp [h1, h2]
theorem check_ev (l : List Int) (nt nw s tr un tk rk : Int) : Ev (fun k => task_Check.f k l nt nw s tr un tk rk) (if okS nt nw s tr un tk rk then 0 else 8) := ev_at 2 fun k => check_eq k l nt nw s tr un tk rk
/-- The error of a task, of numbers, of its state. -/
def inS (nt nw s tr un tk rk : Int) (fit : Bool) (st : Int) : Int := if okS nt nw s tr un tk rk then (if fit then (if s = st then 0 else 240) else 2) else 8
theorem in_eq (k : Nat) (l : List Int) (nt nw s tr un tk rk : Int) (fit : Bool) (st : Int) : task_in.f (k + 2) l nt nw s tr un tk rk fit st = some (inS nt nw s tr un tk rk fit st) := by
  simp only [task_in.f, task_asked.f, check_eq, Option.bind_some, inS]
  cases okS nt nw s tr un tk rk <;> cases fit <;> by_cases h : s = st <;> simp [h]
def heldS (nt nw s tr un tk rk : Int) (fit : Bool) (a : Int) : Int :=
  if inS nt nw s tr un tk rk (fit && decide (1 ≤ a) && momS a) 2 = 0 then (if tk = a then 0 else 260) else inS nt nw s tr un tk rk (fit && decide (1 ≤ a) && momS a) 2
theorem held_eq (k : Nat) (l : List Int) (nt nw s tr un tk rk : Int) (fit : Bool) (a : Int) : task_held.f (k + 2) l nt nw s tr un tk rk fit a = some (heldS nt nw s tr un tk rk fit a) := by
  simp only [task_held.f, count_eq, in_eq, Option.bind_some, task_held.j0, heldS]
  cases fit
  · simp only [Bool.false_eq_true, if_false, Bool.false_and]
    repeat' split
    all_goals simp_all
  · simp only [if_true, Bool.true_and]
    by_cases h : a ≥ 1
    · rw [if_pos h, decide_eq_true (show 1 ≤ a from h), Bool.true_and]
      repeat' split
      all_goals simp_all
    · rw [if_neg h, decide_eq_false (show ¬ 1 ≤ a by omega), Bool.false_and]
      repeat' split
      all_goals simp_all
abbrev TT := Int × Int × Int × Int × Int × Int
def openS (nt nw s tr un tk rk a : Int) : TT := if inS nt nw s tr un tk rk (momS a) 0 = 0 then (1, 0, 0, 0, a, 0) else (0, 0, 0, 0, 0, inS nt nw s tr un tk rk (momS a) 0)
theorem open_eq (k : Nat) (l : List Int) (nt nw s tr un tk rk a : Int) : task_Open.f (k + 2) l nt nw s tr un tk rk a = some (openS nt nw s tr un tk rk a) := by
  simp only [task_Open.f, count_eq, in_eq, Option.bind_some, openS]
  split <;> rfl
def leaseS (nt nw s tr un tk rk a b : Int) : TT :=
  if inS nt nw s tr un tk rk (decide (1 ≤ a) && momS a && momS b) 1 = 0 then (2, wrap64 (tr + 1), b, a, 0, 0) else (0, 0, 0, 0, 0, inS nt nw s tr un tk rk (decide (1 ≤ a) && momS a && momS b) 1)
theorem lease_eq (k : Nat) (l : List Int) (nt nw s tr un tk rk a b : Int) : task_Lease.f (k + 2) l nt nw s tr un tk rk a b = some (leaseS nt nw s tr un tk rk a b) := by
  simp only [task_Lease.f, count_eq, moment_eq, in_eq, Option.bind_some, leaseS]
  by_cases h : a ≥ 1
  · rw [if_pos h, decide_eq_true (show 1 ≤ a from h), Bool.true_and]
    cases momS a <;> simp <;> split <;> rfl
  · rw [if_neg h, decide_eq_false (show ¬ 1 ≤ a by omega), Bool.false_and, Bool.false_and]
    split <;> rfl
def doneS (nt nw s tr un tk rk a : Int) : TT := if heldS nt nw s tr un tk rk true a = 0 then (4, tr, 0, 0, 0, 0) else (0, 0, 0, 0, 0, heldS nt nw s tr un tk rk true a)
theorem done_eq (k : Nat) (l : List Int) (nt nw s tr un tk rk a : Int) : task_Done.f (k + 2) l nt nw s tr un tk rk a = some (doneS nt nw s tr un tk rk a) := by
  simp only [task_Done.f, held_eq, Option.bind_some, doneS]
  split <;> rfl
def beatS (nt nw s tr un tk rk a b : Int) : TT := if heldS nt nw s tr un tk rk (momS b) a = 0 then (s, tr, b, tk, rk, 0) else (0, 0, 0, 0, 0, heldS nt nw s tr un tk rk (momS b) a)
theorem beat_eq (k : Nat) (l : List Int) (nt nw s tr un tk rk a b : Int) : task_Beat.f (k + 2) l nt nw s tr un tk rk a b = some (beatS nt nw s tr un tk rk a b) := by
  simp only [task_Beat.f, moment_eq, held_eq, Option.bind_some, beatS]
  split <;> rfl
def dueS (s un b : Int) : Bool := (decide (s = 2) || decide (s = 3)) && decide (un ≤ b)
theorem due_eq (s tr un tk rk b : Int) : task_Due.f s tr un tk rk b = some (dueS s un b) := by
  unfold task_Due.f dueS
  repeat' split
  all_goals simp_all
def wakeE (nt nw s tr un tk rk a b : Int) : Int := inS nt nw s tr un tk rk (momS a && momS b) 3
def wakeS (nt nw s tr un tk rk a b : Int) : TT := if wakeE nt nw s tr un tk rk a b = 0 then (if dueS s un b then (1, tr, 0, 0, a, 0) else (0, 0, 0, 0, 0, 240)) else (0, 0, 0, 0, 0, wakeE nt nw s tr un tk rk a b)
theorem wake_eq (k : Nat) (l : List Int) (nt nw s tr un tk rk a b : Int) : task_Wake.f (k + 2) l nt nw s tr un tk rk a b = some (wakeS nt nw s tr un tk rk a b) := by
  simp only [task_Wake.f, count_eq, moment_eq, in_eq, Option.bind_some, task_Wake.j0, due_eq, wakeS, wakeE]
  by_cases h0 : momS a = true
  · simp only [h0, if_true, Bool.true_and]
    repeat' split
    all_goals simp_all
  · rw [Bool.not_eq_true] at h0
    simp only [h0, Bool.false_eq_true, if_false, Bool.false_and]
    repeat' split
    all_goals simp_all
def dropS (nt nw s tr un tk rk : Int) : TT := if okS nt nw s tr un tk rk then (if 4 ≤ s ∧ s ≤ 6 then (0, 0, 0, 0, 0, 240) else (6, tr, 0, 0, 0, 0)) else (0, 0, 0, 0, 0, 8)
theorem drop_eq (k : Nat) (l : List Int) (nt nw s tr un tk rk : Int) : task_Drop.f (k + 2) l nt nw s tr un tk rk = some (dropS nt nw s tr un tk rk) := by
  simp only [task_Drop.f, check_eq, Option.bind_some, dropS]
  cases okS nt nw s tr un tk rk
  · rfl
  · simp only [if_true]
    repeat' split
    all_goals first | rfl | (exfalso; omega) | simp_all
/-! ### pauses -/
def pauseN : Nat → Int → Int
  | 0, w => w
  | m + 1, w => pauseN m (min (2 * w) 1048576)
theorem pauseN_range : ∀ (m : Nat) (w : Int), 0 ≤ w → w ≤ 1048576 → 0 ≤ pauseN m w ∧ pauseN m w ≤ 1048576
  | 0, w, h0, h1 => ⟨h0, h1⟩
  | m + 1, w, h0, h1 => pauseN_range m _ (by omega) (by omega)
theorem task_pause_l0 : ∀ (m : Nat) (i w : Int), 0 ≤ i → i + m ≤ 1000 → 0 ≤ w → w ≤ 1048576 → Ev (fun k => task_pause.l0 k (i + m) w i) (pauseN m w)
  | 0, i, w, hi, hm, h0, h1 => Ev.step (fun _ => task_pause.l0.eq_2 ..) (ev_neg (by omega) (ev_some rfl))
  | m + 1, i, w, hi, hm, h0, h1 => by
    refine Ev.step (fun _ => task_pause.l0.eq_2 ..) (ev_pos (by omega) ?_)
    have e : mn (wrap64 (2 * w)) 1048576 = min (2 * w) 1048576 := by
      unfold mn
      rw [w64 (by omega) (by omega)]
      split <;> omega
    rw [e, w64 (by omega) (by omega)]
    have ih := task_pause_l0 m (i + 1) (min (2 * w) 1048576) (by omega) (by omega) (by omega) (by omega)
    rw [show i + ((m + 1 : Nat) : Int) = i + 1 + m by omega]
    exact ih
theorem pause_ev (l : List Int) (nt nw tr : Int) (h0 : 0 ≤ nw) (h1 : nw ≤ 1048576) (t1 : 1 ≤ tr) (t2 : tr ≤ 5) : Ev (fun k => task_pause.f k l nt nw tr) (pauseN (tr - 1).toNat nw) := by
  unfold task_pause.f
  have := task_pause_l0 (tr - 1).toNat 1 nw (by omega) (by omega) h0 h1
  rwa [show (1 : Int) + ((tr - 1).toNat : Int) = tr by omega] at this
def failsS (nt nw tr b : Int) : Int × Int × Int × Int × Int := if tr = nt then (5, tr, 0, 0, 0) else (3, tr, mn (wrap64 (b + pauseN (tr - 1).toNat nw)) 1099511627776, 0, 0)
theorem fails_ev (l : List Int) (nt nw s tr un tk rk b : Int) (h0 : 0 ≤ nw) (h1 : nw ≤ 1048576) (t1 : 1 ≤ tr) (t2 : tr ≤ 5) : Ev (fun k => task_fails.f k l nt nw s tr un tk rk b) (failsS nt nw tr b) := by
  unfold task_fails.f failsS
  by_cases h : tr = nt
  · rw [if_pos h]; exact ev_pos h (Ev.now _)
  · rw [if_neg h]; exact ev_neg h (Ev.bind (pause_ev l nt nw tr h0 h1 t1 t2) (Ev.now _))
def with0 (x : Int × Int × Int × Int × Int) : TT := (x.1, x.2.1, x.2.2.1, x.2.2.2.1, x.2.2.2.2, 0)
theorem node_bounds {nt nw : Int} (h : nodeS nt nw = true) : 1 ≤ nt ∧ nt ≤ 5 ∧ 0 ≤ nw ∧ nw ≤ 1048576 := of_decide_eq_true h
theorem ok_both {nt nw s tr un tk rk : Int} (h : okS nt nw s tr un tk rk = true) : (1 ≤ nt ∧ nt ≤ 5 ∧ 0 ≤ nw ∧ nw ≤ 1048576) ∧ BoundP nt tr un tk rk ∧ ShapeP nt s tr un tk rk := by
  unfold okS at h
  rw [Bool.and_eq_true] at h
  exact ⟨node_bounds h.1, of_decide_eq_true h.2⟩
theorem in_ok {nt nw s tr un tk rk : Int} {fit : Bool} {st : Int} (h : inS nt nw s tr un tk rk fit st = 0) : okS nt nw s tr un tk rk = true ∧ fit = true ∧ s = st := by
  unfold inS at h
  repeat' split at h
  all_goals first | (exfalso; omega) | skip
  rename_i h1 h2 h3
  exact ⟨h1, h2, h3⟩
theorem held_ok {nt nw s tr un tk rk : Int} {fit : Bool} {a : Int} (h : heldS nt nw s tr un tk rk fit a = 0) : okS nt nw s tr un tk rk = true ∧ fit = true ∧ s = 2 ∧ tk = a := by
  unfold heldS at h
  by_cases h1 : inS nt nw s tr un tk rk (fit && decide (1 ≤ a) && momS a) 2 = 0
  · rw [if_pos h1] at h
    obtain ⟨h2, h3, h4⟩ := in_ok h1
    rw [Bool.and_eq_true, Bool.and_eq_true] at h3
    by_cases h5 : tk = a
    · exact ⟨h2, h3.1.1, h4, h5⟩
    · rw [if_neg h5] at h; omega
  · rw [if_neg h1] at h; exact absurd h h1
def failS (nt nw s tr un tk rk a b : Int) : TT := if heldS nt nw s tr un tk rk (momS b) a = 0 then with0 (failsS nt nw tr b) else (0, 0, 0, 0, 0, heldS nt nw s tr un tk rk (momS b) a)
theorem fail_ev (l : List Int) (nt nw s tr un tk rk a b : Int) : Ev (fun k => task_Fail.f k l nt nw s tr un tk rk a b) (failS nt nw s tr un tk rk a b) := by
  unfold task_Fail.f failS
  simp only [moment_eq, Option.bind_some]
  refine Ev.bind (ev_at 2 fun k => held_eq k l nt nw s tr un tk rk (momS b) a) ?_
  by_cases h : heldS nt nw s tr un tk rk (momS b) a = 0
  · rw [if_pos h]
    obtain ⟨h1, _, h3, _⟩ := held_ok h
    obtain ⟨hn, hb, hs⟩ := ok_both h1
    exact ev_pos h (Ev.bind (fails_ev l nt nw s tr un tk rk b (by omega) (by omega) (by omega) (by omega)) (Ev.now _))
  · rw [if_neg h]
    exact ev_neg h (Ev.now _)
def lapseS (nt nw s tr un tk rk b : Int) : TT :=
  if inS nt nw s tr un tk rk (momS b) 2 = 0 then (if dueS s un b then with0 (failsS nt nw tr b) else (0, 0, 0, 0, 0, 240)) else (0, 0, 0, 0, 0, inS nt nw s tr un tk rk (momS b) 2)
theorem lapse_ev (l : List Int) (nt nw s tr un tk rk b : Int) : Ev (fun k => task_Lapse.f k l nt nw s tr un tk rk b) (lapseS nt nw s tr un tk rk b) := by
  unfold task_Lapse.f lapseS
  simp only [moment_eq, Option.bind_some, due_eq]
  refine Ev.bind (ev_at 2 fun k => in_eq k l nt nw s tr un tk rk (momS b) 2) ?_
  by_cases h : inS nt nw s tr un tk rk (momS b) 2 = 0
  · rw [if_pos h]
    obtain ⟨h1, _, h3⟩ := in_ok h
    obtain ⟨hn, hb, hs⟩ := ok_both h1
    refine ev_pos h ?_
    by_cases hd : dueS s un b = true
    · rw [if_pos hd]
      exact ev_pos hd (Ev.bind (fails_ev l nt nw s tr un tk rk b (by omega) (by omega) (by omega) (by omega)) (Ev.now _))
    · rw [if_neg hd]
      exact ev_neg hd (Ev.now _)
  · rw [if_neg h]
    exact ev_neg h (Ev.now _)
end Go.Proofs.Ytbiphljdommacaa.R
namespace Go.Proofs.Ytbiphljdommacaa.R
open Go.RowKit Go.Proofs.YtbiphljdommacaaW.PrintWords Go.Proofs.YtbiphljdommacaaW.PrintLast Go.Proofs.YtbiphljdommacaaW.PrintMore Go.Proofs.Ytbiphljdommacaa.Plain
set_option linter.unusedVariables false
set_option linter.unusedSimpArgs false
theorem shaped_l0 (i many : Int) (x : List Int) (hx : x.length ≤ 100000000000000) : ∀ (d j : Nat) (last : Int), j + d = x.length → Ev (fun k => dag_shaped.l0 k i many last x (x.length : Int) (j : Int)) (needsOk i many last (x.drop j))
  | 0, j, last, h => by
    rw [List.drop_eq_nil_of_le (by omega)]
    exact Ev.step (fun _ => dag_shaped.l0.eq_2 ..) (ev_neg (by omega) (Ev.now _))
  | d + 1, j, last, h => by
    have hj : j < x.length := by omega
    refine Ev.step (fun _ => dag_shaped.l0.eq_2 ..) (ev_pos (by omega) (ev_pos (by omega) (ev_pos (by omega) ?_)))
    rw [rd_int x j hj, List.drop_eq_getElem_cons hj, needsOk]
    by_cases h1 : x[j] ≤ last
    · rw [decide_eq_false (show ¬ last < x[j] by omega), Bool.false_and]
      exact ev_pos h1 (Ev.now _)
    · rw [decide_eq_true (show last < x[j] by omega), Bool.true_and]
      refine ev_neg h1 ?_
      by_cases h2 : x[j] ≥ many
      · rw [decide_eq_false (show ¬ x[j] < many by omega), Bool.false_and]
        exact ev_pos h2 (Ev.now _)
      · rw [decide_eq_true (show x[j] < many by omega), Bool.true_and]
        refine ev_neg h2 ?_
        by_cases h3 : x[j] = i
        · rw [decide_eq_false (show ¬ x[j] ≠ i from fun e => e h3), Bool.false_and]
          exact ev_pos h3 (Ev.now _)
        · rw [decide_eq_true (show x[j] ≠ i from h3), Bool.true_and]
          refine ev_neg h3 ?_
          rw [w64 (by omega) (by omega), show (j : Int) + 1 = ((j + 1 : Nat) : Int) by omega]
          exact shaped_l0 i many x hx d (j + 1) x[j] (by omega)
theorem shaped_ev (i many : Int) (x : NodeT) (hx : x.f0.length ≤ 100000000000000) : Ev (fun k => dag_shaped.f k i many x.f0 x.f1 x.f2) (nodeOk i many x) := by
  unfold dag_shaped.f nodeOk
  have bad : boundsOk x = false → Ev (fun k => dag_shaped.j0 k i many true x.f0 x.f1 x.f2) (boundsOk x && needsOk i many (-1) x.f0) := by
    intro h
    rw [h, Bool.false_and]
    exact Ev.step (fun _ => dag_shaped.j0.eq_2 ..) (ev_pos rfl (Ev.now _))
  by_cases h1 : x.f1 < 1
  · exact ev_pos h1 (bad (decide_eq_false (by omega)))
  · refine ev_neg h1 ?_
    by_cases h2 : x.f1 > 5
    · exact ev_pos h2 (bad (decide_eq_false (by omega)))
    · refine ev_neg h2 ?_
      by_cases h3 : x.f2 < 0
      · exact ev_pos h3 (bad (decide_eq_false (by omega)))
      · refine ev_neg h3 ?_
        by_cases h4 : x.f2 > 1048576
        · rw [decide_eq_true h4]
          exact bad (decide_eq_false (by omega))
        · rw [decide_eq_false h4, show boundsOk x = true from decide_eq_true (by omega), Bool.true_and]
          have := shaped_l0 i many x.f0 hx x.f0.length 0 (-1) (by omega)
          exact Ev.step (fun _ => dag_shaped.j0.eq_2 ..) (ev_neg (by decide) this)
/-! ### which specs may be -/
theorem dcheck_l0 (l : List NodeT) (hf : fitS l) (hm : manyOk l = true) : ∀ (d i : Nat), i + d = l.length → (shapeFrom (l.length : Int) i (l.drop i) = shapeS l) → Ev (fun k => dag_Check.l0 k (l.length : Int) l (l.length : Int) (i : Int)) (checkS l)
  | 0, i, h, h1 => by
    have hs : shapeS l = true := by rw [← h1, List.drop_eq_nil_of_le (by omega)]; rfl
    refine Ev.step (fun _ => dag_Check.l0.eq_2 ..) (ev_neg (by omega) (ev_pos (by rw [hm, hs]; rfl) (ev_some ?_)))
    unfold checkS mayS
    rw [hm, hs]
    cases cycS l <;> rfl
  | d + 1, i, h, h1 => by
    have hfl := hf.1
    have hi : i < l.length := by omega
    rw [List.drop_eq_getElem_cons hi, shapeFrom] at h1
    refine Ev.step (fun _ => dag_Check.l0.eq_2 ..) (ev_pos (by omega) (ev_pos (by omega) (ev_pos (by omega) ?_)))
    rw [rd_node l i hi]
    refine Ev.bind (shaped_ev (i : Int) (l.length : Int) l[i] (hf.2 _ (List.getElem_mem hi))) ?_
    cases hb : nodeOk (i : Int) (l.length : Int) l[i] with
    | false =>
      have hs : shapeS l = false := by rw [← h1, hb]; rfl
      refine ev_neg (by decide) (ev_some ?_)
      unfold checkS mayS
      rw [hs, Bool.false_and, Bool.and_false]
      rfl
    | true =>
      rw [hb, Bool.true_and] at h1
      refine ev_pos rfl ?_
      rw [w64 (by omega) (by omega), show (i : Int) + 1 = ((i + 1 : Nat) : Int) by omega]
      exact dcheck_l0 l hf hm d (i + 1) (by omega) h1
theorem dcheck_ev (l : List NodeT) (hf : fitS l) : Ev (fun k => dag_Check.f k l) (checkS l) := by
  unfold dag_Check.f
  have bad : manyOk l = false → Ev (fun k => dag_Check.j0 k (l.length : Int) true l) (checkS l) := by
    intro h
    unfold checkS mayS
    rw [h, Bool.false_and]
    exact Ev.step (fun _ => dag_Check.j0.eq_2 ..) (ev_pos rfl (Ev.now _))
  by_cases h1 : (l.length : Int) < 1
  · exact ev_pos h1 (bad (decide_eq_false (by omega)))
  · refine ev_neg h1 ?_
    by_cases h2 : (l.length : Int) > 12
    · rw [decide_eq_true h2]
      exact bad (decide_eq_false (by omega))
    · rw [decide_eq_false h2]
      have hm : manyOk l = true := decide_eq_true (by omega)
      have := dcheck_l0 l hf hm l.length 0 (by omega) rfl
      exact Ev.step (fun _ => dag_Check.j0.eq_2 ..) (ev_neg (by decide) this)
theorem check_zero (l : List NodeT) : checkS l = 0 ↔ mayS l = true := by
  unfold checkS
  cases mayS l <;> simp

/-! ### runs in plain words -/
abbrev TaskT := S35
theorem rd_task (l : List TaskT) (i : Nat) (h : i < l.length) : rd_T35 l (i : Int) = l[i] := by simp [rd_T35, List.getD_eq_getElem?_getD, List.getElem?_eq_getElem h]
theorem rd_num (l : List Int) (i : Nat) (h : i < l.length) : rd l (i : Int) = l[i] := by simp [rd, List.getD_eq_getElem?_getD, List.getElem?_eq_getElem h]
/-! #### is a number among some? -/
def findN (a : Int) : Nat → List Int → Int
  | _, [] => -1
  | i, x :: r => if a = x then (i : Int) else findN a (i + 1) r
theorem findN_ge (a : Int) : ∀ (l : List Int) (i : Nat), decide (findN a i l ≥ 0) = l.contains a
  | [], i => by simp [findN]
  | x :: r, i => by
    unfold findN
    by_cases h : a = x
    · rw [if_pos h]; simp [h] <;> omega
    · rw [if_neg h, findN_ge a r (i + 1), List.contains_cons, beq_false_of_ne h, Bool.false_or]
theorem idx_l0 (a : Int) (l : List Int) (hl : l.length ≤ 1000) : ∀ (d i : Nat), i + d = l.length → Ev (fun k => slices_Index_uint8_uint8.l0 k l a (l.length : Int) (i : Int)) (findN a i (l.drop i))
  | 0, i, h => by
    rw [List.drop_of_length_le (by omega)]
    exact Ev.step (fun _ => slices_Index_uint8_uint8.l0.eq_2 ..) (ev_neg (by omega) (Ev.now _))
  | d + 1, i, h => by
    have hi : i < l.length := by omega
    refine Ev.step (fun _ => slices_Index_uint8_uint8.l0.eq_2 ..) (ev_pos (by omega) (ev_pos (by omega) (ev_pos (by omega) ?_)))
    rw [rd_num l i hi, List.drop_eq_getElem_cons hi, findN]
    refine ev_ite (fun _ => Ev.now _) (fun _ => ?_)
    rw [w64 (by omega) (by omega)]
    exact idx_l0 a l hl d (i + 1) (by omega)
theorem state_ev (s tr un tk rk : Int) (l : List Int) (hl : l.length ≤ 1000) : Ev (fun k => run_state.f k s tr un tk rk l) (l.contains s) := by
  unfold run_state.f slices_Contains_uint8_uint8.f slices_Index_uint8_uint8.f
  refine Ev.bind (Ev.bind (idx_l0 s l hl l.length 0 (by omega)) (Ev.now _)) (ev_some ?_)
  rw [List.drop_zero]
  exact findN_ge s l 0
theorem all1_ev (s tr un tk rk : Int) (l : List Int) (hl : l.length ≤ 1000) : Ev (fun k => run_all_1.f k s tr un tk rk l) (!(l.contains s)) := by
  unfold run_all_1.f
  exact Ev.bind (state_ev s tr un tk rk l hl) (Ev.now _)
theorem some1_ev (s tr un tk rk : Int) (l : List Int) (hl : l.length ≤ 1000) : Ev (fun k => run_some_1.f k s tr un tk rk l) (l.contains s) := by
  unfold run_some_1.f
  exact Ev.bind (state_ev s tr un tk rk l hl) (Ev.now _)
/-! #### has a list one that fits? -/
def firstT {α : Type} (p : α → Bool) : Nat → List α → Int
  | _, [] => -1
  | i, x :: r => if p x = true then (i : Int) else firstT p (i + 1) r
theorem firstT_ge {α : Type} (p : α → Bool) : ∀ (l : List α) (i : Nat), decide (firstT p i l ≥ 0) = l.any p
  | [], i => by simp [firstT]
  | x :: r, i => by
    unfold firstT
    rw [List.any_cons]
    by_cases h : p x = true
    · rw [if_pos h, h]; simp <;> omega
    · rw [if_neg h, firstT_ge p r (i + 1), Bool.eq_false_iff.mpr h, Bool.false_or]
theorem idxT_l0 (D : Nat → Int → Int → Int → Int → Int → Option Bool) (p : TaskT → Bool) (hD : ∀ t : TaskT, Ev (fun k => D k t.f0 t.f1 t.f2 t.f3 t.f4) (p t)) (l : List TaskT) (x : List Int) (hl : l.length ≤ 100000) : ∀ (d i : Nat), i + d = l.length →
    Ev (fun k => slices_IndexFunc_api_Task.l0 D k l x (l.length : Int) (i : Int)) (firstT p i (l.drop i))
  | 0, i, h => by
    rw [List.drop_of_length_le (by omega)]
    exact Ev.step (fun _ => slices_IndexFunc_api_Task.l0.eq_2 ..) (ev_neg (by omega) (Ev.now _))
  | d + 1, i, h => by
    have hi : i < l.length := by omega
    refine Ev.step (fun _ => slices_IndexFunc_api_Task.l0.eq_2 ..) (ev_pos (by omega) (ev_pos (by omega) (ev_pos (by omega) ?_)))
    rw [rd_task l i hi, List.drop_eq_getElem_cons hi, firstT]
    refine Ev.bind (hD l[i]) (ev_ite (fun _ => Ev.now _) (fun _ => ?_))
    rw [w64 (by omega) (by omega)]
    exact idxT_l0 D p hD l x hl d (i + 1) (by omega)
theorem hasT_ev (D : Nat → Int → Int → Int → Int → Int → Option Bool) (p : TaskT → Bool) (hD : ∀ t : TaskT, Ev (fun k => D k t.f0 t.f1 t.f2 t.f3 t.f4) (p t)) (l : List TaskT) (x : List Int) (hl : l.length ≤ 100000) : Ev (fun k => slices_ContainsFunc_api_Task.f D k l x) (l.any p) := by
  unfold slices_ContainsFunc_api_Task.f slices_IndexFunc_api_Task.f
  refine Ev.bind (idxT_l0 D p hD l x hl l.length 0 (by omega)) (ev_some ?_)
  rw [List.drop_zero]
  exact firstT_ge p l 0
def allS (ts : List TaskT) (l : List Int) : Bool := ts.all fun t => l.contains t.f0
def someS (ts : List TaskT) (l : List Int) : Bool := ts.any fun t => l.contains t.f0
theorem all_ev (id : Int) (key : ByteArray) (ns : List NodeT) (st : Int) (ts : List TaskT) (l : List Int) (hl : l.length ≤ 1000) (ht : ts.length ≤ 100000) : Ev (fun k => run_all.f k id key ns st ts l) (allS ts l) := by
  unfold run_all.f
  refine Ev.bind (hasT_ev _ (fun t => !(l.contains t.f0)) (fun t => all1_ev _ _ _ _ _ l hl) ts l ht) (ev_some ?_)
  unfold allS
  rw [← List.not_all_eq_any_not, Bool.not_not]
theorem some_ev (id : Int) (key : ByteArray) (ns : List NodeT) (st : Int) (ts : List TaskT) (l : List Int) (hl : l.length ≤ 1000) (ht : ts.length ≤ 100000) : Ev (fun k => run_some.f k id key ns st ts l) (someS ts l) := by
  unfold run_some.f
  exact Ev.bind (hasT_ev _ (fun t => l.contains t.f0) (fun t => some1_ev _ _ _ _ _ l hl) ts l ht) (Ev.now _)
/-! #### is all that a node needs done? -/
def stateN (ts : List TaskT) (k : Int) : Int := (rd_T35 ts k).f0
theorem idxM_l0 (ts : List TaskT) (l : List Int) (hl : l.length ≤ 100000) (hr : ∀ k ∈ l, 0 ≤ k ∧ k < (ts.length : Int)) : ∀ (d i : Nat), i + d = l.length →
    Ev (fun k => slices_IndexFunc_int_int.l0 k l ts (l.length : Int) (i : Int)) (firstT (fun k => stateN ts k != 4) i (l.drop i))
  | 0, i, h => by
    rw [List.drop_of_length_le (by omega)]
    exact Ev.step (fun _ => slices_IndexFunc_int_int.l0.eq_2 ..) (ev_neg (by omega) (Ev.now _))
  | d + 1, i, h => by
    have hi : i < l.length := by omega
    have hk := hr l[i] (List.getElem_mem hi)
    refine Ev.step (fun _ => slices_IndexFunc_int_int.l0.eq_2 ..) (ev_pos (by omega) (ev_pos (by omega) (ev_pos (by omega) ?_)))
    rw [rd_num l i hi, List.drop_eq_getElem_cons hi, firstT]
    have hm : Ev (fun _ => run_met_1.f l[i] ts) (stateN ts l[i] != 4) := by
      unfold run_met_1.f
      exact ev_pos hk.1 (ev_pos hk.2 (Ev.now _))
    refine Ev.bind hm (ev_ite (fun _ => Ev.now _) (fun _ => ?_))
    rw [w64 (by omega) (by omega)]
    exact idxM_l0 ts l hl hr d (i + 1) (by omega)
def metS (ts : List TaskT) (l : List Int) : Bool := l.all fun k => stateN ts k == 4
theorem met_ev (id : Int) (key : ByteArray) (ns : List NodeT) (st : Int) (ts : List TaskT) (l : List Int) (a b : Int) (hl : l.length ≤ 100000) (hr : ∀ k ∈ l, 0 ≤ k ∧ k < (ts.length : Int)) : Ev (fun k => run_met.f k id key ns st ts l a b) (metS ts l) := by
  unfold run_met.f slices_ContainsFunc_int_int.f slices_IndexFunc_int_int.f
  refine Ev.bind (Ev.bind (idxM_l0 ts l hl hr l.length 0 (by omega)) (Ev.now _)) (ev_some ?_)
  rw [List.drop_zero, firstT_ge]
  unfold metS
  rw [show (fun k => stateN ts k == 4) = (fun k => !(stateN ts k != 4)) from funext fun k => by simp [bne], ← List.not_any_eq_all_not]
/-! #### may a run stand so? -/
def goesOk (ts : List TaskT) : Nat → List NodeT → Bool
  | _, [] => true
  | i, x :: r => !(metS ts x.f0 == (stateN ts (i : Int) == 0)) && goesOk ts (i + 1) r
def standsS (ns : List NodeT) (st : Int) (ts : List TaskT) : Bool :=
  if st = 1 then goesOk ts 0 ns && (!(allS ts [4]) && !(someS ts [5, 6])) else if st = 2 then allS ts [4] else if st = 3 then someS ts [5] && allS ts [4, 5, 6] else if st = 4 then someS ts [6] && allS ts [4, 6] else false
theorem stands_l0 (id : Int) (key : ByteArray) (ns : List NodeT) (st : Int) (ts : List TaskT) (hn : ns.length ≤ 1000) (he : ts.length = ns.length) (hf : ∀ x ∈ ns, x.f0.length ≤ 100000) (hr : ∀ x ∈ ns, ∀ k ∈ x.f0, 0 ≤ k ∧ k < (ns.length : Int)) : ∀ (d i : Nat), i + d = ns.length →
    Ev (fun k => run_stands.l0 k ns (ns.length : Int) (i : Int) id key ns st ts) (goesOk ts i (ns.drop i) && (!(allS ts [4]) && !(someS ts [5, 6])))
  | 0, i, h => by
    rw [List.drop_of_length_le (by omega), goesOk, Bool.true_and]
    refine Ev.step (fun _ => run_stands.l0.eq_2 ..) (ev_neg (by omega) (Ev.bind (all_ev id key ns st ts [4] (by simp) (by omega)) ?_))
    cases allS ts [4] with
    | true => exact ev_pos rfl (Ev.now _)
    | false => exact ev_neg (by decide) (Ev.bind (some_ev id key ns st ts [5, 6] (by simp) (by omega)) (Ev.now _))
  | d + 1, i, h => by
    have hi : i < ns.length := by omega
    have hm := List.getElem_mem hi
    refine Ev.step (fun _ => run_stands.l0.eq_2 ..) (ev_pos (by omega) (ev_pos (by omega) (ev_pos (by omega) ?_)))
    rw [rd_node ns i hi, List.drop_eq_getElem_cons hi, goesOk]
    refine Ev.bind (met_ev id key ns st ts ns[i].f0 ns[i].f1 ns[i].f2 (hf _ hm) (by rw [he]; exact hr _ hm)) (ev_pos (by omega) ?_)
    show Ev (fun k => if (metS ts ns[i].f0 == (stateN ts (i : Int) == 0)) = true then _ else _) _
    cases metS ts ns[i].f0 == (stateN ts (i : Int) == 0) with
    | true => exact ev_pos rfl (Ev.now _)
    | false =>
      refine ev_neg (by decide) ?_
      rw [w64 (by omega) (by omega), Bool.not_false, Bool.true_and]
      exact stands_l0 id key ns st ts hn he hf hr d (i + 1) (by omega)
theorem stands_ev (id : Int) (key : ByteArray) (ns : List NodeT) (st : Int) (ts : List TaskT) (hn : ns.length ≤ 1000) (he : ts.length = ns.length) (hf : ∀ x ∈ ns, x.f0.length ≤ 100000) (hr : ∀ x ∈ ns, ∀ k ∈ x.f0, 0 ≤ k ∧ k < (ns.length : Int)) :
    Ev (fun k => run_stands.f k id key ns st ts) (standsS ns st ts) := by
  have ht : ts.length ≤ 100000 := by omega
  unfold run_stands.f standsS
  refine ev_ite (fun _ => ?_) (fun _ => ev_ite (fun _ => ?_) (fun _ => ev_ite (fun _ => ?_) (fun _ => ev_ite (fun _ => ?_) (fun _ => Ev.now _))))
  · exact stands_l0 id key ns st ts hn he hf hr ns.length 0 (by omega)
  · exact Ev.bind (all_ev id key ns st ts [4] (by simp) ht) (Ev.now _)
  · refine Ev.bind (some_ev id key ns st ts [5] (by simp) ht) ?_
    cases someS ts [5] with
    | true => exact ev_pos rfl (Ev.bind (all_ev id key ns st ts [4, 5, 6] (by simp) ht) (Ev.now _))
    | false => exact ev_neg (by decide) (Ev.now _)
  · refine Ev.bind (some_ev id key ns st ts [6] (by simp) ht) ?_
    cases someS ts [6] with
    | true => exact ev_pos rfl (Ev.bind (all_ev id key ns st ts [4, 6] (by simp) ht) (Ev.now _))
    | false => exact ev_neg (by decide) (Ev.now _)
def taskOk (x : NodeT) (t : TaskT) : Bool := okS x.f1 x.f2 t.f0 t.f1 t.f2 t.f3 t.f4
def tasksOk (ts : List TaskT) : Nat → List NodeT → Bool
  | _, [] => true
  | i, x :: r => taskOk x (rd_T35 ts (i : Int)) && tasksOk ts (i + 1) r
def mayRun (id : Int) (key : ByteArray) (ns : List NodeT) (st : Int) (ts : List TaskT) : Bool :=
  decide (0 ≤ id ∧ id ≤ 1099511627776 ∧ 1 ≤ key.size ∧ key.size ≤ 24) && (mayS ns && (decide (ts.length = ns.length) && (tasksOk ts 0 ns && standsS ns st ts)))
def chkRun (id : Int) (key : ByteArray) (ns : List NodeT) (st : Int) (ts : List TaskT) : Int := if mayRun id key ns st ts = true then 0 else 8
theorem rchk_l0 (id : Int) (key : ByteArray) (ns : List NodeT) (st : Int) (ts : List TaskT) (hn : ns.length ≤ 1000) (he : ts.length = ns.length) (hf : ∀ x ∈ ns, x.f0.length ≤ 100000) (hr : ∀ x ∈ ns, ∀ k ∈ x.f0, 0 ≤ k ∧ k < (ns.length : Int)) : ∀ (d i : Nat), i + d = ns.length →
    Ev (fun k => run_Check.l0 k ns (ns.length : Int) (i : Int) id key ns st ts) (if (tasksOk ts i (ns.drop i) && standsS ns st ts) = true then 0 else 8)
  | 0, i, h => by
    rw [List.drop_of_length_le (by omega), tasksOk, Bool.true_and]
    exact Ev.step (fun _ => run_Check.l0.eq_2 ..) (ev_neg (by omega) (Ev.bind (stands_ev id key ns st ts hn he hf hr) (ev_ite (fun _ => Ev.now _) (fun _ => Ev.now _))))
  | d + 1, i, h => by
    have hi : i < ns.length := by omega
    refine Ev.step (fun _ => run_Check.l0.eq_2 ..) (ev_pos (by omega) (ev_pos (by omega) (ev_pos (by omega) (ev_pos (by omega) ?_))))
    rw [rd_node ns i hi, List.drop_eq_getElem_cons hi, tasksOk]
    refine Ev.bind (check_ev ns[i].f0 ns[i].f1 ns[i].f2 _ _ _ _ _) ?_
    show Ev (fun k => if (if taskOk ns[i] (rd_T35 ts (i : Int)) = true then (0 : Int) else 8) = 0 then _ else _) _
    cases taskOk ns[i] (rd_T35 ts (i : Int)) with
    | true =>
      refine ev_pos rfl ?_
      rw [w64 (by omega) (by omega), Bool.true_and]
      exact rchk_l0 id key ns st ts hn he hf hr d (i + 1) (by omega)
    | false => exact ev_neg (by decide) (Ev.now _)
theorem may_needs {ns : List NodeT} (h : mayS ns = true) : ns.length ≤ 12 ∧ 1 ≤ ns.length ∧ ∀ x ∈ ns, ∀ k ∈ x.f0, 0 ≤ k ∧ k < (ns.length : Int) := by
  unfold mayS at h
  rw [Bool.and_eq_true, Bool.and_eq_true] at h
  have hm := of_decide_eq_true h.1
  refine ⟨hm.2, hm.1, fun x hx k hk => ?_⟩
  obtain ⟨i, hi, rfl⟩ := List.getElem_of_mem hx
  have := shape_needs ns h.2.1 i hi k (by rw [needs_at ns i hi]; exact hk)
  exact ⟨this.1, this.2.1⟩
theorem rchk_ev (id : Int) (key : ByteArray) (ns : List NodeT) (st : Int) (ts : List TaskT) (hf : fitS ns) (hx : ∀ x ∈ ns, x.f0.length ≤ 100000) : Ev (fun k => run_Check.f k id key ns st ts) (chkRun id key ns st ts) := by
  have bad : mayRun id key ns st ts = false → Ev (fun k => run_Check.j0 k true id key ns st ts) (chkRun id key ns st ts) := by
    intro h
    unfold chkRun
    rw [h]
    exact Ev.step (fun _ => run_Check.j0.eq_2 ..) (ev_pos rfl (Ev.now _))
  have no : ¬ (0 ≤ id ∧ id ≤ 1099511627776 ∧ 1 ≤ key.size ∧ key.size ≤ 24) → mayRun id key ns st ts = false := by
    intro h
    unfold mayRun
    rw [decide_eq_false h, Bool.false_and]
  unfold run_Check.f
  by_cases h1 : id < 0
  · exact ev_pos h1 (bad (no (by omega)))
  by_cases h2 : id > 1099511627776
  · exact ev_neg h1 (ev_pos h2 (bad (no (by omega))))
  by_cases h3 : (key.size : Int) < 1
  · exact ev_neg h1 (ev_neg h2 (ev_pos h3 (bad (no (by omega)))))
  by_cases h4 : (key.size : Int) > 24
  · exact ev_neg h1 (ev_neg h2 (ev_neg h3 (ev_pos h4 (bad (no (by omega))))))
  refine ev_neg h1 (ev_neg h2 (ev_neg h3 (ev_neg h4 (Ev.bind (dcheck_ev ns hf) ?_))))
  have hh : decide (0 ≤ id ∧ id ≤ 1099511627776 ∧ 1 ≤ key.size ∧ key.size ≤ 24) = true := decide_eq_true (by omega)
  by_cases h5 : mayS ns = true
  rotate_left
  · refine ev_neg (fun h => h5 ((check_zero ns).mp h)) (bad ?_)
    unfold mayRun
    rw [Bool.eq_false_iff.mpr h5, Bool.false_and, Bool.and_false]
  refine ev_pos ((check_zero ns).mpr h5) ?_
  obtain ⟨hn, _, hr⟩ := may_needs h5
  by_cases h6 : ts.length = ns.length
  rotate_left
  · rw [show ((ts.length : Int) != (ns.length : Int)) = true by simp; omega]
    refine bad ?_
    unfold mayRun
    rw [decide_eq_false h6, Bool.false_and, Bool.and_false, Bool.and_false]
  rw [show ((ts.length : Int) != (ns.length : Int)) = false by simp; omega]
  refine Ev.step (fun _ => run_Check.j0.eq_2 ..) (ev_neg (by decide) (ev_eq (rchk_l0 id key ns st ts (by omega) h6 hx hr ns.length 0 (by omega)) ?_))
  unfold chkRun mayRun
  rw [hh, h5, decide_eq_true h6, Bool.true_and, Bool.true_and, Bool.true_and, List.drop_zero]
end Go.Proofs.Ytbiphljdommacaa.R

/- Tasks in plain words: what the program's and the document's functions tell. -/
import Derived.Test.YtbgfjhnbmfgccaaRx11
import Derived.Test.YtbgfjhnbmfgccaaRx10
import Derived.Test.YtbgfjhnbmfgccaaRx7
import Derived.Test.YtbgfjhnbmfgccaaRx4
import Derived.Test.YtbgfjhnbmfgccaaRx5
import Derived.Test.YtbgfjhnbmfgccaaRx9
import Derived.Test.YtbgfjhnbmfgccaaRx14
import Derived.Test.YtbgfjhnbmfgccaaRx23
import Derived.Test.YtbgfjhnbmfgccaaRx24
import Derived.Test.YtbgfjhnbmfgccaaRx21
import Derived.Test.YtbgfjhnbmfgccaaRx18
import Derived.Test.YtbgfjhnbmfgccaaRx19
import Derived.Test.YtbgfjhnbmfgccaaRx22
import Derived.Test.YtbgfjhnbmfgccaaRx25
import Derived.Test.YtbgfjhnbmfgccaaPlain
namespace Go.Proofs.Ytbgfjhnbmfgccaa.R
open Go.RowKit Go.Proofs.YtbgfjhnbmfgccaaW.PrintWords Go.Proofs.Ytbgfjhnbmfgccaa.Plain
set_option linter.unusedVariables false

/-! ### tasks in plain words -/
theorem ev_at {α : Type} {g : Nat → Option α} {r : α} (n : Nat) (h : ∀ k, g (k + n) = some r) : Ev g r := ⟨n, fun k hk => by
  obtain ⟨m, rfl⟩ : ∃ m, k = m + n := ⟨k - n, by omega⟩
  exact h m⟩
def momS (x : Int) : Bool := decide (0 ≤ x ∧ x ≤ 1099511627776)
theorem moment_eq (x : Int) : task_moment.f x = some (momS x) := by
  unfold task_moment.f momS
  split
  · congr 1; rw [decide_eq_decide]; omega
  · congr 1; symm; rw [decide_eq_false_iff_not]; omega
theorem count_eq (x : Int) : task_count.f x = some (momS x) := by
  unfold task_count.f momS
  split
  · congr 1; rw [decide_eq_decide]; omega
  · congr 1; symm; rw [decide_eq_false_iff_not]; omega
def nodeS (tries wait : Int) : Bool := decide (1 ≤ tries ∧ tries ≤ 5 ∧ 0 ≤ wait ∧ wait ≤ 1048576)
theorem task_node_eq (l : List Int) (tries wait : Int) : task_node.f l tries wait = some (nodeS tries wait) := by
  unfold task_node.f nodeS
  repeat' split
  all_goals (congr 1; rw [Bool.eq_iff_iff]; simp; omega)
abbrev ShapeP (nt s tr un tk rk : Int) : Prop :=
  (s = 0 ∧ tr = 0 ∧ un = 0 ∧ tk = 0 ∧ rk = 0) ∨ (s = 1 ∧ tr < nt ∧ un = 0 ∧ tk = 0) ∨ (s = 2 ∧ 1 ≤ tr ∧ 1 ≤ tk ∧ rk = 0) ∨ (s = 3 ∧ 1 ≤ tr ∧ tr < nt ∧ tk = 0 ∧ rk = 0) ∨
  (s = 4 ∧ 1 ≤ tr ∧ un = 0 ∧ tk = 0 ∧ rk = 0) ∨ (s = 5 ∧ tr = nt ∧ un = 0 ∧ tk = 0 ∧ rk = 0) ∨ (s = 6 ∧ un = 0 ∧ tk = 0 ∧ rk = 0)
abbrev BoundP (nt tr un tk rk : Int) : Prop := 0 ≤ tr ∧ tr ≤ nt ∧ 0 ≤ un ∧ un ≤ 1099511627776 ∧ 0 ≤ tk ∧ tk ≤ 1099511627776 ∧ 0 ≤ rk ∧ rk ≤ 1099511627776
def mayS (nt s tr un tk rk : Int) : Bool := decide (BoundP nt tr un tk rk ∧ ShapeP nt s tr un tk rk)
theorem may_j1 (k : Nat) (l : List Int) (nt nw s tr un tk rk : Int) (b : Bool) (hb : b = decide (un = 0 ∧ tk = 0 ∧ rk = 0)) : task_may.j1 (k + 1) b l nt nw s tr un tk rk = some (decide (ShapeP nt s tr un tk rk)) := by
  subst hb
  simp only [task_may.j1]
  repeat' split
  all_goals (congr 1; rw [Bool.eq_iff_iff]; simp; omega)
theorem may_j0 (k : Nat) (l : List Int) (nt nw s tr un tk rk : Int) : task_may.j0 (k + 2) false l nt nw s tr un tk rk = some (decide (ShapeP nt s tr un tk rk)) := by
  simp only [task_may.j0, Bool.false_eq_true, if_false]
  repeat' split
  all_goals (refine may_j1 k l nt nw s tr un tk rk _ ?_; rw [Bool.eq_iff_iff]; simp; omega)
theorem may_t (k : Nat) (l : List Int) (nt nw s tr un tk rk : Int) : task_may.j0 (k + 2) true l nt nw s tr un tk rk = some false := by
  simp only [task_may.j0, if_true]
theorem may_eq (k : Nat) (l : List Int) (nt nw s tr un tk rk : Int) : task_may.f (k + 2) l nt nw s tr un tk rk = some (mayS nt s tr un tk rk) := by
  simp only [task_may.f, moment_eq, count_eq, Option.bind_some]
  by_cases hB : BoundP nt tr un tk rk
  · rw [if_neg (by omega), if_neg (by omega), if_pos (show momS un = true from decide_eq_true (by omega)), if_pos (show momS tk = true from decide_eq_true (by omega))]
    have : momS rk = true := decide_eq_true (by omega)
    rw [this, Bool.not_true, may_j0]
    unfold mayS
    congr 1
    rw [decide_eq_decide]
    exact ⟨fun h => ⟨hB, h⟩, fun h => h.2⟩
  · have hf : mayS nt s tr un tk rk = false := decide_eq_false (fun h => hB h.1)
    rw [hf]
    repeat' split
    all_goals try rw [may_t]
    rename_i h1 h2 h3 h4
    have h3' := of_decide_eq_true h3
    have h4' := of_decide_eq_true h4
    have : momS rk = false := decide_eq_false (fun h => hB (by omega))
    rw [this, Bool.not_false, may_t]
def okS (nt nw s tr un tk rk : Int) : Bool := nodeS nt nw && mayS nt s tr un tk rk
theorem check_eq (k : Nat) (l : List Int) (nt nw s tr un tk rk : Int) : task_Check.f (k + 2) l nt nw s tr un tk rk = some (if okS nt nw s tr un tk rk then 0 else 8) := by
  simp only [task_Check.f, task_node_eq, may_eq, Option.bind_some, okS]
  by_cases h1 : nodeS nt nw = true <;> by_cases h2 : mayS nt s tr un tk rk = true <;> simp [h1, h2]
theorem check_ev (l : List Int) (nt nw s tr un tk rk : Int) : Ev (fun k => task_Check.f k l nt nw s tr un tk rk) (if okS nt nw s tr un tk rk then 0 else 8) := ev_at 2 fun k => check_eq k l nt nw s tr un tk rk
/-- The error of a task, of numbers, of its state. -/
def inS (nt nw s tr un tk rk : Int) (fit : Bool) (st : Int) : Int := if okS nt nw s tr un tk rk then (if fit then (if s = st then 0 else 240) else 2) else 8
theorem in_eq (k : Nat) (l : List Int) (nt nw s tr un tk rk : Int) (fit : Bool) (st : Int) : task_in.f (k + 2) l nt nw s tr un tk rk fit st = some (inS nt nw s tr un tk rk fit st) := by
  simp only [task_in.f, task_asked.f, check_eq, Option.bind_some, inS]
  cases okS nt nw s tr un tk rk <;> cases fit <;> by_cases h : s = st <;> simp [h]
def heldS (nt nw s tr un tk rk : Int) (fit : Bool) (a : Int) : Int :=
  if inS nt nw s tr un tk rk (fit && decide (1 ≤ a) && momS a) 2 = 0 then (if tk = a then 0 else 260) else inS nt nw s tr un tk rk (fit && decide (1 ≤ a) && momS a) 2
theorem held_eq (k : Nat) (l : List Int) (nt nw s tr un tk rk : Int) (fit : Bool) (a : Int) : task_held.f (k + 2) l nt nw s tr un tk rk fit a = some (heldS nt nw s tr un tk rk fit a) := by
  simp only [task_held.f, count_eq, in_eq, Option.bind_some, task_held.j0, heldS]
  cases fit
  · simp only [Bool.false_eq_true, if_false, Bool.false_and]
    repeat' split
    all_goals simp_all
  · simp only [if_true, Bool.true_and]
    by_cases h : a ≥ 1
    · rw [if_pos h, decide_eq_true (show 1 ≤ a from h), Bool.true_and]
      repeat' split
      all_goals simp_all
    · rw [if_neg h, decide_eq_false (show ¬ 1 ≤ a by omega), Bool.false_and]
      repeat' split
      all_goals simp_all
abbrev TT := Int × Int × Int × Int × Int × Int
def openS (nt nw s tr un tk rk a : Int) : TT := if inS nt nw s tr un tk rk (momS a) 0 = 0 then (1, 0, 0, 0, a, 0) else (0, 0, 0, 0, 0, inS nt nw s tr un tk rk (momS a) 0)
theorem open_eq (k : Nat) (l : List Int) (nt nw s tr un tk rk a : Int) : task_Open.f (k + 2) l nt nw s tr un tk rk a = some (openS nt nw s tr un tk rk a) := by
  simp only [task_Open.f, count_eq, in_eq, Option.bind_some, openS]
  split <;> rfl
def leaseS (nt nw s tr un tk rk a b : Int) : TT :=
  if inS nt nw s tr un tk rk (decide (1 ≤ a) && momS a && momS b) 1 = 0 then (2, wrap64 (tr + 1), b, a, 0, 0) else (0, 0, 0, 0, 0, inS nt nw s tr un tk rk (decide (1 ≤ a) && momS a && momS b) 1)
theorem lease_eq (k : Nat) (l : List Int) (nt nw s tr un tk rk a b : Int) : task_Lease.f (k + 2) l nt nw s tr un tk rk a b = some (leaseS nt nw s tr un tk rk a b) := by
  simp only [task_Lease.f, count_eq, moment_eq, in_eq, Option.bind_some, leaseS]
  by_cases h : a ≥ 1
  · rw [if_pos h, decide_eq_true (show 1 ≤ a from h), Bool.true_and]
    cases momS a <;> simp <;> split <;> rfl
  · rw [if_neg h, decide_eq_false (show ¬ 1 ≤ a by omega), Bool.false_and, Bool.false_and]
    split <;> rfl
def doneS (nt nw s tr un tk rk a : Int) : TT := if heldS nt nw s tr un tk rk true a = 0 then (4, tr, 0, 0, 0, 0) else (0, 0, 0, 0, 0, heldS nt nw s tr un tk rk true a)
theorem done_eq (k : Nat) (l : List Int) (nt nw s tr un tk rk a : Int) : task_Done.f (k + 2) l nt nw s tr un tk rk a = some (doneS nt nw s tr un tk rk a) := by
  simp only [task_Done.f, held_eq, Option.bind_some, doneS]
  split <;> rfl
def beatS (nt nw s tr un tk rk a b : Int) : TT := if heldS nt nw s tr un tk rk (momS b) a = 0 then (s, tr, b, tk, rk, 0) else (0, 0, 0, 0, 0, heldS nt nw s tr un tk rk (momS b) a)
theorem beat_eq (k : Nat) (l : List Int) (nt nw s tr un tk rk a b : Int) : task_Beat.f (k + 2) l nt nw s tr un tk rk a b = some (beatS nt nw s tr un tk rk a b) := by
  simp only [task_Beat.f, moment_eq, held_eq, Option.bind_some, beatS]
  split <;> rfl
def dueS (s un b : Int) : Bool := (decide (s = 2) || decide (s = 3)) && decide (un ≤ b)
theorem due_eq (s tr un tk rk b : Int) : task_Due.f s tr un tk rk b = some (dueS s un b) := by
  unfold task_Due.f dueS
  repeat' split
  all_goals simp_all
def wakeE (nt nw s tr un tk rk a b : Int) : Int := inS nt nw s tr un tk rk (momS a && momS b) 3
def wakeS (nt nw s tr un tk rk a b : Int) : TT := if wakeE nt nw s tr un tk rk a b = 0 then (if dueS s un b then (1, tr, 0, 0, a, 0) else (0, 0, 0, 0, 0, 240)) else (0, 0, 0, 0, 0, wakeE nt nw s tr un tk rk a b)
theorem wake_eq (k : Nat) (l : List Int) (nt nw s tr un tk rk a b : Int) : task_Wake.f (k + 2) l nt nw s tr un tk rk a b = some (wakeS nt nw s tr un tk rk a b) := by
  simp only [task_Wake.f, count_eq, moment_eq, in_eq, Option.bind_some, task_Wake.j0, due_eq, wakeS, wakeE]
  by_cases h0 : momS a = true
  · simp only [h0, if_true, Bool.true_and]
    repeat' split
    all_goals simp_all
  · rw [Bool.not_eq_true] at h0
    simp only [h0, Bool.false_eq_true, if_false, Bool.false_and]
    repeat' split
    all_goals simp_all
def dropS (nt nw s tr un tk rk : Int) : TT := if okS nt nw s tr un tk rk then (if 4 ≤ s ∧ s ≤ 6 then (0, 0, 0, 0, 0, 240) else (6, tr, 0, 0, 0, 0)) else (0, 0, 0, 0, 0, 8)
theorem drop_eq (k : Nat) (l : List Int) (nt nw s tr un tk rk : Int) : task_Drop.f (k + 2) l nt nw s tr un tk rk = some (dropS nt nw s tr un tk rk) := by
  simp only [task_Drop.f, check_eq, Option.bind_some, dropS]
  cases okS nt nw s tr un tk rk
  · rfl
  · simp only [if_true]
    repeat' split
    all_goals first | rfl | (exfalso; omega) | simp_all
/-! ### pauses -/
def pauseN : Nat → Int → Int
  | 0, w => w
  | m + 1, w => pauseN m (min (2 * w) 1048576)
theorem task_pause_l0 : ∀ (m : Nat) (i w : Int), 0 ≤ i → i + m ≤ 1000 → 0 ≤ w → w ≤ 1048576 → Ev (fun k => task_pause.l0 k (i + m) w i) (pauseN m w)
  | 0, i, w, hi, hm, h0, h1 => Ev.step (fun _ => task_pause.l0.eq_2 ..) (ev_neg (by omega) (ev_some rfl))
  | m + 1, i, w, hi, hm, h0, h1 => by
    refine Ev.step (fun _ => task_pause.l0.eq_2 ..) (ev_pos (by omega) ?_)
    have e : mn (wrap64 (2 * w)) 1048576 = min (2 * w) 1048576 := by
      unfold mn
      rw [w64 (by omega) (by omega)]
      split <;> omega
    rw [e, w64 (by omega) (by omega)]
    have ih := task_pause_l0 m (i + 1) (min (2 * w) 1048576) (by omega) (by omega) (by omega) (by omega)
    rw [show i + ((m + 1 : Nat) : Int) = i + 1 + m by omega]
    exact ih
theorem pause_ev (l : List Int) (nt nw tr : Int) (h0 : 0 ≤ nw) (h1 : nw ≤ 1048576) (t1 : 1 ≤ tr) (t2 : tr ≤ 5) : Ev (fun k => task_pause.f k l nt nw tr) (pauseN (tr - 1).toNat nw) := by
  unfold task_pause.f
  have := task_pause_l0 (tr - 1).toNat 1 nw (by omega) (by omega) h0 h1
  rwa [show (1 : Int) + ((tr - 1).toNat : Int) = tr by omega] at this
def failsS (nt nw tr b : Int) : Int × Int × Int × Int × Int := if tr = nt then (5, tr, 0, 0, 0) else (3, tr, mn (wrap64 (b + pauseN (tr - 1).toNat nw)) 1099511627776, 0, 0)
theorem fails_ev (l : List Int) (nt nw s tr un tk rk b : Int) (h0 : 0 ≤ nw) (h1 : nw ≤ 1048576) (t1 : 1 ≤ tr) (t2 : tr ≤ 5) : Ev (fun k => task_fails.f k l nt nw s tr un tk rk b) (failsS nt nw tr b) := by
  unfold task_fails.f failsS
  by_cases h : tr = nt
  · rw [if_pos h]; exact ev_pos h (Ev.now _)
  · rw [if_neg h]; exact ev_neg h (Ev.bind (pause_ev l nt nw tr h0 h1 t1 t2) (Ev.now _))
def with0 (x : Int × Int × Int × Int × Int) : TT := (x.1, x.2.1, x.2.2.1, x.2.2.2.1, x.2.2.2.2, 0)
theorem node_bounds {nt nw : Int} (h : nodeS nt nw = true) : 1 ≤ nt ∧ nt ≤ 5 ∧ 0 ≤ nw ∧ nw ≤ 1048576 := of_decide_eq_true h
theorem ok_both {nt nw s tr un tk rk : Int} (h : okS nt nw s tr un tk rk = true) : (1 ≤ nt ∧ nt ≤ 5 ∧ 0 ≤ nw ∧ nw ≤ 1048576) ∧ BoundP nt tr un tk rk ∧ ShapeP nt s tr un tk rk := by
  unfold okS at h
  rw [Bool.and_eq_true] at h
  exact ⟨node_bounds h.1, of_decide_eq_true h.2⟩
theorem in_ok {nt nw s tr un tk rk : Int} {fit : Bool} {st : Int} (h : inS nt nw s tr un tk rk fit st = 0) : okS nt nw s tr un tk rk = true ∧ fit = true ∧ s = st := by
  unfold inS at h
  repeat' split at h
  all_goals first | (exfalso; omega) | skip
  rename_i h1 h2 h3
  exact ⟨h1, h2, h3⟩
theorem held_ok {nt nw s tr un tk rk : Int} {fit : Bool} {a : Int} (h : heldS nt nw s tr un tk rk fit a = 0) : okS nt nw s tr un tk rk = true ∧ fit = true ∧ s = 2 ∧ tk = a := by
  unfold heldS at h
  by_cases h1 : inS nt nw s tr un tk rk (fit && decide (1 ≤ a) && momS a) 2 = 0
  · rw [if_pos h1] at h
    obtain ⟨h2, h3, h4⟩ := in_ok h1
    rw [Bool.and_eq_true, Bool.and_eq_true] at h3
    by_cases h5 : tk = a
    · exact ⟨h2, h3.1.1, h4, h5⟩
    · rw [if_neg h5] at h; omega
  · rw [if_neg h1] at h; exact absurd h h1
def failS (nt nw s tr un tk rk a b : Int) : TT := if heldS nt nw s tr un tk rk (momS b) a = 0 then with0 (failsS nt nw tr b) else (0, 0, 0, 0, 0, heldS nt nw s tr un tk rk (momS b) a)
theorem fail_ev (l : List Int) (nt nw s tr un tk rk a b : Int) : Ev (fun k => task_Fail.f k l nt nw s tr un tk rk a b) (failS nt nw s tr un tk rk a b) := by
  unfold task_Fail.f failS
  simp only [moment_eq, Option.bind_some]
  refine Ev.bind (ev_at 2 fun k => held_eq k l nt nw s tr un tk rk (momS b) a) ?_
  by_cases h : heldS nt nw s tr un tk rk (momS b) a = 0
  · rw [if_pos h]
    obtain ⟨h1, _, h3, _⟩ := held_ok h
    obtain ⟨hn, hb, hs⟩ := ok_both h1
    exact ev_pos h (Ev.bind (fails_ev l nt nw s tr un tk rk b (by omega) (by omega) (by omega) (by omega)) (Ev.now _))
  · rw [if_neg h]
    exact ev_neg h (Ev.now _)
def lapseS (nt nw s tr un tk rk b : Int) : TT :=
  if inS nt nw s tr un tk rk (momS b) 2 = 0 then (if dueS s un b then with0 (failsS nt nw tr b) else (0, 0, 0, 0, 0, 240)) else (0, 0, 0, 0, 0, inS nt nw s tr un tk rk (momS b) 2)
theorem lapse_ev (l : List Int) (nt nw s tr un tk rk b : Int) : Ev (fun k => task_Lapse.f k l nt nw s tr un tk rk b) (lapseS nt nw s tr un tk rk b) := by
  unfold task_Lapse.f lapseS
  simp only [moment_eq, Option.bind_some, due_eq]
  refine Ev.bind (ev_at 2 fun k => in_eq k l nt nw s tr un tk rk (momS b) 2) ?_
  by_cases h : inS nt nw s tr un tk rk (momS b) 2 = 0
  · rw [if_pos h]
    obtain ⟨h1, _, h3⟩ := in_ok h
    obtain ⟨hn, hb, hs⟩ := ok_both h1
    refine ev_pos h ?_
    by_cases hd : dueS s un b = true
    · rw [if_pos hd]
      exact ev_pos hd (Ev.bind (fails_ev l nt nw s tr un tk rk b (by omega) (by omega) (by omega) (by omega)) (Ev.now _))
    · rw [if_neg hd]
      exact ev_neg hd (Ev.now _)
  · rw [if_neg h]
    exact ev_neg h (Ev.now _)
/-! ### the document's tasks in plain words -/
theorem rIn_eq (x : Int) : millhandref24_In.f x = some (momS x) := by
  unfold millhandref24_In.f momS
  split
  · congr 1; rw [decide_eq_decide]; omega
  · congr 1; symm; rw [decide_eq_false_iff_not]; omega
theorem rNode_eq (l : List Int) (tries wait : Int) : millhandref24_Node.f l tries wait = some (nodeS tries wait) := by
  unfold millhandref24_Node.f nodeS
  repeat' split
  all_goals (congr 1; rw [Bool.eq_iff_iff]; simp; omega)
theorem shape0 (nt tr : Int) : ShapeP nt 0 tr 0 0 0 ↔ tr = 0 := by unfold ShapeP; simp
theorem shape1 (nt tr rk : Int) : ShapeP nt 1 tr 0 0 rk ↔ tr < nt := by unfold ShapeP; simp
theorem shape2 (nt tr un tk : Int) (h : 1 ≤ tk) : ShapeP nt 2 tr un tk 0 ↔ tr > 0 := by unfold ShapeP; simp [h]; omega
theorem shape3 (nt tr un : Int) : ShapeP nt 3 tr un 0 0 ↔ tr < nt ∧ tr > 0 := by unfold ShapeP; simp; omega
theorem shape4 (nt tr : Int) : ShapeP nt 4 tr 0 0 0 ↔ tr > 0 := by unfold ShapeP; simp; omega
theorem shape5 (nt tr : Int) : ShapeP nt 5 tr 0 0 0 ↔ tr = nt := by unfold ShapeP; simp
theorem shape6 (nt tr : Int) : ShapeP nt 6 tr 0 0 0 := by unfold ShapeP; simp
theorem rmay_j2 (k : Nat) (l : List Int) (nt nw s tr un tk rk : Int) (b : Bool) (hb : b = decide (s = 1 ∨ s = 3)) (h0 : 0 < s) (h6 : s ≤ 6) (t0 : 0 ≤ tr) (t1 : tr ≤ nt) (k0 : 0 ≤ tk) (hr : rk = 0 ∨ s = 1) (hu : un = 0 ∨ s = 2 ∨ s = 3) (ht : (tk = 0 ∧ s ≠ 2) ∨ (tk ≠ 0 ∧ s = 2)) :
    millhandref24_May.j2 (k + 1) b l nt nw s tr un tk rk = some (decide (ShapeP nt s tr un tk rk)) := by
  subst hb
  have hs : s = 1 ∨ s = 2 ∨ s = 3 ∨ s = 4 ∨ s = 5 ∨ s = 6 := by omega
  simp only [millhandref24_May.j2]
  rcases hs with rfl | rfl | rfl | rfl | rfl | rfl
  · rw [show decide ((1 : Int) = 1 ∨ (1 : Int) = 3) = true by decide, if_pos rfl]
    obtain rfl : un = 0 := by omega
    obtain rfl : tk = 0 := by omega
    have e := shape1 nt tr rk
    by_cases h : tr < nt
    · rw [if_pos h, decide_eq_true (e.mpr h)]; split <;> rfl
    · rw [if_neg h, decide_eq_false (fun z => h (e.mp z))]
  · rw [show decide ((2 : Int) = 1 ∨ (2 : Int) = 3) = false by decide, if_neg (by decide), if_neg (by decide)]
    obtain rfl : rk = 0 := by omega
    have e := shape2 nt tr un tk (by omega)
    by_cases h : tr > 0
    · rw [if_pos h, decide_eq_true (e.mpr h)]
    · rw [if_neg h, decide_eq_false (fun z => h (e.mp z))]; rfl
  · rw [show decide ((3 : Int) = 1 ∨ (3 : Int) = 3) = true by decide, if_pos rfl]
    obtain rfl : rk = 0 := by omega
    obtain rfl : tk = 0 := by omega
    have e := shape3 nt tr un
    by_cases h : tr < nt
    · rw [if_pos h]
      by_cases h2 : tr > 0
      · rw [if_pos h2, decide_eq_true (e.mpr ⟨h, h2⟩)]
      · rw [if_neg h2, decide_eq_false (fun z => h2 (e.mp z).2)]; rfl
    · rw [if_neg h, decide_eq_false (fun z => h (e.mp z).1)]
  · rw [show decide ((4 : Int) = 1 ∨ (4 : Int) = 3) = false by decide, if_neg (by decide), if_neg (by decide)]
    obtain rfl : rk = 0 := by omega
    obtain rfl : tk = 0 := by omega
    obtain rfl : un = 0 := by omega
    have e := shape4 nt tr
    by_cases h : tr > 0
    · rw [if_pos h, decide_eq_true (e.mpr h)]
    · rw [if_neg h, decide_eq_false (fun z => h (e.mp z))]; rfl
  · rw [show decide ((5 : Int) = 1 ∨ (5 : Int) = 3) = false by decide, if_neg (by decide), if_pos rfl]
    obtain rfl : rk = 0 := by omega
    obtain rfl : tk = 0 := by omega
    obtain rfl : un = 0 := by omega
    have e := shape5 nt tr
    by_cases h : tr = nt
    · rw [decide_eq_true (e.mpr h), h, beq_self_eq_true]
    · rw [decide_eq_false (fun z => h (e.mp z)), beq_eq_false_iff_ne.mpr h]
  · rw [show decide ((6 : Int) = 1 ∨ (6 : Int) = 3) = false by decide, if_neg (by decide), if_neg (by decide)]
    obtain rfl : rk = 0 := by omega
    obtain rfl : tk = 0 := by omega
    obtain rfl : un = 0 := by omega
    have e := shape6 nt tr
    rw [decide_eq_true e]
    split <;> rfl
theorem rmay_j1 (k : Nat) (l : List Int) (nt nw s tr un tk rk : Int) (h0 : 0 ≤ s) (h6 : s ≤ 6) (t0 : 0 ≤ tr) (t1 : tr ≤ nt) (k0 : 0 ≤ tk) (hr : rk = 0 ∨ s = 1) (hu : un = 0 ∨ s = 2 ∨ s = 3) (ht : (tk = 0 ∧ s ≠ 2) ∨ (tk ≠ 0 ∧ s = 2)) :
    millhandref24_May.j1 (k + 2) false l nt nw s tr un tk rk = some (decide (ShapeP nt s tr un tk rk)) := by
  simp only [millhandref24_May.j1, Bool.false_eq_true, if_false]
  by_cases hs : s = 0
  · rw [if_pos hs]
    subst hs
    obtain rfl : rk = 0 := by omega
    obtain rfl : tk = 0 := by omega
    obtain rfl : un = 0 := by omega
    have e := shape0 nt tr
    by_cases h : tr = 0
    · rw [decide_eq_true (e.mpr h), h, beq_self_eq_true]
    · rw [decide_eq_false (fun z => h (e.mp z)), beq_eq_false_iff_ne.mpr h]
  rw [if_neg hs]
  by_cases h1 : s = 1
  · rw [if_pos h1]
    exact rmay_j2 k l nt nw s tr un tk rk true (by rw [decide_eq_true (Or.inl h1)]) (by omega) h6 t0 t1 k0 hr hu ht
  · rw [if_neg h1]
    refine rmay_j2 k l nt nw s tr un tk rk _ ?_ (by omega) h6 t0 t1 k0 hr hu ht
    by_cases h3 : s = 3
    · rw [decide_eq_true (Or.inr h3), h3]; rfl
    · rw [decide_eq_false (fun z => z.elim h1 h3), beq_eq_false_iff_ne.mpr h3]
theorem rmay_bad (k : Nat) (l : List Int) (nt nw s tr un tk rk : Int) : millhandref24_May.j1 (k + 2) true l nt nw s tr un tk rk = some false := by simp only [millhandref24_May.j1, if_true]
abbrev FitP (s un tk rk : Int) : Prop := (rk = 0 ∨ s = 1) ∧ (un = 0 ∨ s = 2 ∨ s = 3) ∧ ((tk = 0 ∧ s ≠ 2) ∨ (tk ≠ 0 ∧ s = 2))
theorem rmay_j0 (k : Nat) (l : List Int) (nt nw s tr un tk rk : Int) : millhandref24_May.j0 (k + 3) false l nt nw s tr un tk rk = millhandref24_May.j1 (k + 2) (!decide (FitP s un tk rk)) l nt nw s tr un tk rk := by
  have hs : s = 1 ∨ s = 2 ∨ s = 3 ∨ (s ≠ 1 ∧ s ≠ 2 ∧ s ≠ 3) := by omega
  by_cases hr : rk = 0 <;> by_cases hu : un = 0 <;> by_cases ht : tk = 0 <;> rcases hs with rfl | rfl | rfl | ⟨h1, h2, h3⟩ <;> simp [millhandref24_May.j0, FitP, *]
  all_goals first | (rw [beq_eq_false_iff_ne.mpr h2]; done) | (rw [bne_iff_ne.mpr ht]; done) | (rw [bne_iff_ne.mpr ht]; rfl) | (rw [bne_iff_ne.mpr ht, beq_eq_false_iff_ne.mpr h2]; rfl)
theorem rmay_t (k : Nat) (l : List Int) (nt nw s tr un tk rk : Int) : millhandref24_May.j0 (k + 3) true l nt nw s tr un tk rk = some false := by simp only [millhandref24_May.j0, if_true]
theorem rmay_eq (k : Nat) (l : List Int) (nt nw s tr un tk rk : Int) (hs : 0 ≤ s) : millhandref24_May.f (k + 3) l nt nw s tr un tk rk = some (mayS nt s tr un tk rk) := by
  simp only [millhandref24_May.f, rIn_eq, Option.bind_some]
  by_cases hB : BoundP nt tr un tk rk
  rotate_left
  · have hf : mayS nt s tr un tk rk = false := decide_eq_false (fun h => hB h.1)
    rw [hf]
    repeat' split
    all_goals try rw [rmay_t]
    rename_i h1 h2 h3 h4 h5
    have h4' := of_decide_eq_true h4
    have h5' := of_decide_eq_true h5
    have : momS rk = false := decide_eq_false (fun h => hB (by omega))
    rw [this, Bool.not_false, rmay_t]
  by_cases h6 : s > 6
  · rw [if_pos h6, rmay_t]
    have hf : mayS nt s tr un tk rk = false := decide_eq_false (fun h => by have := h.2; omega)
    rw [hf]
  rw [if_neg h6, if_neg (by omega), if_neg (by omega), if_pos (show momS un = true from decide_eq_true (by omega)), if_pos (show momS tk = true from decide_eq_true (by omega))]
  have hm : momS rk = true := decide_eq_true (by omega)
  rw [hm, Bool.not_true, rmay_j0]
  by_cases hf : FitP s un tk rk
  · rw [decide_eq_true hf, Bool.not_true, rmay_j1 k l nt nw s tr un tk rk hs (by omega) (by omega) (by omega) (by omega) hf.1 hf.2.1 hf.2.2]
    unfold mayS
    congr 1
    rw [decide_eq_decide]
    exact ⟨fun h => ⟨hB, h⟩, fun h => h.2⟩
  · rw [decide_eq_false hf, Bool.not_false, rmay_bad]
    have hx : mayS nt s tr un tk rk = false := decide_eq_false (fun h => by have := h.2; omega)
    rw [hx]
theorem rcheck_eq (k : Nat) (l : List Int) (nt nw s tr un tk rk : Int) (hs : 0 ≤ s) : millhandref24_Check.f (k + 3) l nt nw s tr un tk rk = some (if okS nt nw s tr un tk rk then 0 else 8) := by
  simp only [millhandref24_Check.f, rNode_eq, rmay_eq _ _ _ _ _ _ _ _ _ hs, Option.bind_some, okS]
  by_cases h1 : nodeS nt nw = true <;> by_cases h2 : mayS nt s tr un tk rk = true <;> simp [h1, h2]
theorem rstate_eq (k : Nat) (l : List Int) (nt nw s tr un tk rk : Int) (fit : Bool) (st : Int) (hs : 0 ≤ s) : millhandref24_state.f (k + 3) l nt nw s tr un tk rk fit st = some (inS nt nw s tr un tk rk fit st) := by
  simp only [millhandref24_state.f, rNode_eq, rmay_eq _ _ _ _ _ _ _ _ _ hs, Option.bind_some, millhandref24_state.j0, inS, okS]
  by_cases h1 : nodeS nt nw = true <;> by_cases h2 : mayS nt s tr un tk rk = true <;> cases fit <;> simp [h1, h2] <;> split <;> rfl
theorem rowned_eq (k : Nat) (l : List Int) (nt nw s tr un tk rk : Int) (a : Int) (fit : Bool) (hs : 0 ≤ s) : millhandref24_owned.f (k + 3) l nt nw s tr un tk rk a fit = some (heldS nt nw s tr un tk rk fit a) := by
  have key : ∀ g : Bool, (match inS nt nw s tr un tk rk g 2 with | x => if x = 0 then (if tk = a then some x else some 260) else some x) = some (if inS nt nw s tr un tk rk g 2 = 0 then (if tk = a then 0 else 260) else inS nt nw s tr un tk rk g 2) := by
    intro g
    simp only
    repeat' split
    all_goals simp_all
  simp only [millhandref24_owned.f, rIn_eq, rstate_eq _ _ _ _ _ _ _ _ _ _ _ hs, Option.bind_some, heldS]
  simp only at key
  by_cases h : a > 0
  · rw [if_pos h, decide_eq_true (show 1 ≤ a by omega), Bool.and_true]
    cases momS a
    · rw [if_neg (by decide), key, Bool.and_false]
    · rw [if_pos rfl, key, Bool.and_true]
  · rw [if_neg h, key, decide_eq_false (show ¬ 1 ≤ a by omega), Bool.and_false, Bool.false_and]
theorem rOpen_eq (k : Nat) (l : List Int) (nt nw s tr un tk rk a : Int) (hs : 0 ≤ s) : millhandref24_Open.f (k + 3) l nt nw s tr un tk rk a = some (openS nt nw s tr un tk rk a) := by
  simp only [millhandref24_Open.f, rIn_eq, rstate_eq _ _ _ _ _ _ _ _ _ _ _ hs, Option.bind_some, openS]
  split <;> rfl
theorem rLease_eq (k : Nat) (l : List Int) (nt nw s tr un tk rk a b : Int) (hs : 0 ≤ s) : millhandref24_Lease.f (k + 3) l nt nw s tr un tk rk a b = some (leaseS nt nw s tr un tk rk a b) := by
  simp only [millhandref24_Lease.f, rIn_eq, rstate_eq _ _ _ _ _ _ _ _ _ _ _ hs, Option.bind_some, leaseS]
  by_cases h : a > 0
  · rw [if_pos h, decide_eq_true (show 1 ≤ a by omega), Bool.true_and]
    cases momS a <;> simp <;> split <;> rfl
  · rw [if_neg h, decide_eq_false (show ¬ 1 ≤ a by omega), Bool.false_and, Bool.false_and]
    split <;> rfl
theorem rDone_eq (k : Nat) (l : List Int) (nt nw s tr un tk rk a : Int) (hs : 0 ≤ s) : millhandref24_Done.f (k + 3) l nt nw s tr un tk rk a = some (doneS nt nw s tr un tk rk a) := by
  simp only [millhandref24_Done.f, rowned_eq _ _ _ _ _ _ _ _ _ _ _ hs, Option.bind_some, doneS]
  split <;> rfl
theorem rBeat_eq (k : Nat) (l : List Int) (nt nw s tr un tk rk a b : Int) (hs : 0 ≤ s) : millhandref24_Beat.f (k + 3) l nt nw s tr un tk rk a b = some (beatS nt nw s tr un tk rk a b) := by
  simp only [millhandref24_Beat.f, rIn_eq, rowned_eq _ _ _ _ _ _ _ _ _ _ _ hs, Option.bind_some, beatS]
  split <;> rfl
theorem rDue_eq (s tr un tk rk b : Int) : millhandref24_Due.f s tr un tk rk b = some (dueS s un b) := by
  unfold millhandref24_Due.f dueS
  repeat' split
  all_goals simp_all
theorem rWake_eq (k : Nat) (l : List Int) (nt nw s tr un tk rk a b : Int) (hs : 0 ≤ s) : millhandref24_Wake.f (k + 3) l nt nw s tr un tk rk a b = some (wakeS nt nw s tr un tk rk a b) := by
  have hj : ∀ e : Int, millhandref24_Wake.j0 (k + 3) a b e s tr un tk rk = some (if e = 0 then (if dueS s un b then (1, tr, 0, 0, a, 0) else (0, 0, 0, 0, 0, 240)) else (0, 0, 0, 0, 0, e)) := by
    intro e
    simp only [millhandref24_Wake.j0, millhandref24_Wake.j1, rDue_eq, Option.bind_some]
    by_cases hd : dueS s un b = true <;> by_cases h : e = 0 <;> simp [h, hd]
  simp only [millhandref24_Wake.f, rIn_eq, rstate_eq _ _ _ _ _ _ _ _ _ _ _ hs, Option.bind_some, hj, wakeS, wakeE]
  by_cases h : momS a = true <;> simp [h]
theorem rLong_l0 : ∀ (m : Nat) (i w : Int), 0 ≤ i → i + m ≤ 1000 → 0 ≤ w → w ≤ 1048576 → Ev (fun k => millhandref24_Long.l0 k (i + m) w i) (pauseN m w)
  | 0, i, w, hi, hm, h0, h1 => Ev.step (fun _ => millhandref24_Long.l0.eq_2 ..) (ev_neg (by omega) (ev_some rfl))
  | m + 1, i, w, hi, hm, h0, h1 => by
    refine Ev.step (fun _ => millhandref24_Long.l0.eq_2 ..) (ev_pos (by omega) ?_)
    have ih := rLong_l0 m (i + 1) (min (2 * w) 1048576) (by omega) (by omega) (by omega) (by omega)
    rw [show i + ((m + 1 : Nat) : Int) = i + 1 + m by omega, w64 (i := w * 2) (by omega) (by omega), w64 (i := i + 1) (by omega) (by omega)]
    by_cases hc : w * 2 > 1048576
    · rw [show min (2 * w) 1048576 = 1048576 by omega] at ih
      exact ev_pos hc (ev_eq ih (by rw [pauseN]; congr 1; omega))
    · rw [show min (2 * w) 1048576 = w * 2 by omega] at ih
      exact ev_neg hc (ev_eq ih (by rw [pauseN]; congr 1; omega))
theorem rLong_ev (l : List Int) (nt nw tr : Int) (h0 : 0 ≤ nw) (h1 : nw ≤ 1048576) (t1 : 1 ≤ tr) (t2 : tr ≤ 5) : Ev (fun k => millhandref24_Long.f k l nt nw tr) (pauseN (tr - 1).toNat nw) := by
  unfold millhandref24_Long.f
  have := rLong_l0 (tr - 1).toNat 1 nw (by omega) (by omega) h0 h1
  rwa [show (1 : Int) + ((tr - 1).toNat : Int) = tr by omega] at this
theorem rFailed_ev (l : List Int) (nt nw s tr un tk rk b : Int) (h0 : 0 ≤ nw) (h1 : nw ≤ 1048576) (t1 : 1 ≤ tr) (t2 : tr ≤ 5) : Ev (fun k => millhandref24_Failed.f k l nt nw s tr un tk rk b) (failsS nt nw tr b) := by
  unfold millhandref24_Failed.f failsS
  by_cases h : tr = nt
  · rw [if_pos h]; exact ev_pos h (Ev.now _)
  · rw [if_neg h]
    refine ev_neg h (Ev.bind (rLong_ev l nt nw tr h0 h1 t1 t2) ?_)
    unfold mn
    by_cases hc : wrap64 (b + pauseN (tr - 1).toNat nw) > 1099511627776
    · refine ev_pos hc (ev_some ?_)
      rw [if_pos hc]
    · refine ev_neg hc (ev_some ?_)
      rw [if_neg hc]
theorem rFail_ev (l : List Int) (nt nw s tr un tk rk a b : Int) (hs : 0 ≤ s) : Ev (fun k => millhandref24_Fail.f k l nt nw s tr un tk rk a b) (failS nt nw s tr un tk rk a b) := by
  unfold millhandref24_Fail.f failS
  simp only [rIn_eq, Option.bind_some]
  refine Ev.bind (ev_at 3 fun k => rowned_eq k l nt nw s tr un tk rk a (momS b) hs) ?_
  by_cases h : heldS nt nw s tr un tk rk (momS b) a = 0
  · rw [if_pos h]
    obtain ⟨h1, _, h3, _⟩ := held_ok h
    obtain ⟨hn, hb, hs2⟩ := ok_both h1
    exact ev_pos h (Ev.bind (rFailed_ev l nt nw s tr un tk rk b (by omega) (by omega) (by omega) (by omega)) (Ev.now _))
  · rw [if_neg h]
    exact ev_neg h (Ev.now _)
theorem rLapse_ev (l : List Int) (nt nw s tr un tk rk b : Int) (hs : 0 ≤ s) : Ev (fun k => millhandref24_Lapse.f k l nt nw s tr un tk rk b) (lapseS nt nw s tr un tk rk b) := by
  unfold millhandref24_Lapse.f lapseS
  simp only [rIn_eq, Option.bind_some, rDue_eq]
  refine Ev.bind (ev_at 3 fun k => rstate_eq k l nt nw s tr un tk rk (momS b) 2 hs) ?_
  by_cases h : inS nt nw s tr un tk rk (momS b) 2 = 0
  · rw [if_pos h]
    obtain ⟨h1, _, h3⟩ := in_ok h
    obtain ⟨hn, hb, hs2⟩ := ok_both h1
    refine ev_pos h ?_
    by_cases hd : dueS s un b = true
    · rw [if_pos hd, hd]
      exact Ev.step (fun _ => millhandref24_Lapse.j0.eq_2 ..) (ev_neg (by decide) (ev_pos h (Ev.bind (rFailed_ev l nt nw s tr un tk rk b (by omega) (by omega) (by omega) (by omega)) (Ev.now _))))
    · rw [if_neg hd, Bool.not_eq_true] at *
      rw [hd]
      exact Ev.step (fun _ => millhandref24_Lapse.j0.eq_2 ..) (ev_pos rfl (ev_neg (by decide) (Ev.now _)))
  · rw [if_neg h]
    exact ev_neg h (Ev.step (fun _ => millhandref24_Lapse.j0.eq_2 ..) (ev_neg (by decide) (ev_neg h (Ev.now _))))
theorem rDrop_eq (k : Nat) (l : List Int) (nt nw s tr un tk rk : Int) (hs : 0 ≤ s) : millhandref24_Drop.f (k + 3) l nt nw s tr un tk rk = some (dropS nt nw s tr un tk rk) := by
  simp only [millhandref24_Drop.f, rcheck_eq _ _ _ _ _ _ _ _ _ hs, Option.bind_some, millhandref24_Ended.f, millhandref24_Drop.j0, dropS]
  cases ho : okS nt nw s tr un tk rk
  · rfl
  · obtain ⟨hn, hb, hs2⟩ := ok_both ho
    simp only [if_true]
    by_cases h : s ≥ 4
    · rw [if_pos (show 4 ≤ s ∧ s ≤ 6 by omega)]
      simp [h]
    · rw [if_neg (show ¬ (4 ≤ s ∧ s ≤ 6) by omega)]
      simp [h]
def pauseS (nt nw a : Int) : Int × Int := if nodeS nt nw then (if a < 1 then (0, 2) else if a > 5 then (0, 2) else (pauseN (a - 1).toNat nw, 0)) else (0, 8)
theorem rPause_ev (l : List Int) (nt nw a : Int) : Ev (fun k => millhandref24_Pause.f k l nt nw a) (pauseS nt nw a) := by
  unfold millhandref24_Pause.f pauseS
  simp only [rNode_eq, Option.bind_some]
  by_cases h : nodeS nt nw = true
  · rw [if_pos h]
    have hb := node_bounds h
    exact ev_pos h (ev_ite (fun _ => Ev.now _) (fun h1 => ev_ite (fun _ => Ev.now _) (fun h2 => Ev.bind (rLong_ev l nt nw a (by omega) (by omega) (by omega) (by omega)) (Ev.now _))))
  · rw [if_neg h]
    exact ev_neg h (Ev.now _)
theorem Pause_evS (l : List Int) (nt nw a : Int) : Ev (fun k => task_Pause.f k l nt nw a) (pauseS nt nw a) := by
  unfold task_Pause.f pauseS
  simp only [task_node_eq, Option.bind_some]
  by_cases h : nodeS nt nw = true
  · rw [if_pos h]
    have hb := node_bounds h
    exact ev_pos h (ev_ite (fun _ => Ev.now _) (fun h1 => ev_ite (fun _ => Ev.now _) (fun h2 => Ev.bind (pause_ev l nt nw a (by omega) (by omega) (by omega) (by omega)) (Ev.now _))))
  · rw [if_neg h]
    exact ev_neg h (Ev.now _)
theorem uniq {α : Type} {g : Nat → Option α} (hm : ∀ k, LeO (g k) (g (k + 1))) {r r' : α} (he : Ev g r) {k : Nat} (h : g k = some r') : r' = r := by
  obtain ⟨K, hK⟩ := he
  have h1 := at_rounds hm (Nat.le_max_left k K) h
  have h2 := hK (max k K) (Nat.le_max_right k K)
  exact Option.some.inj (h1.symm.trans h2)
theorem same_Open {k k' : Nat} {l : List Int} {nt nw s tr un tk rk a : Int} (hs : 0 ≤ s) {x y : TT} (h : task_Open.f k l nt nw s tr un tk rk a = some x) (h' : millhandref24_Open.f k' l nt nw s tr un tk rk a = some y) : x = y := by
  have e1 := uniq (task_Open.mono l nt nw s tr un tk rk a) (ev_at 2 fun k => open_eq k l nt nw s tr un tk rk a) h
  have e2 := uniq (millhandref24_Open.mono l nt nw s tr un tk rk a) (ev_at 3 fun k => rOpen_eq k l nt nw s tr un tk rk a hs) h'
  rw [e1, e2]
theorem same_Lease {k k' : Nat} {l : List Int} {nt nw s tr un tk rk a b : Int} (hs : 0 ≤ s) {x y : TT} (h : task_Lease.f k l nt nw s tr un tk rk a b = some x) (h' : millhandref24_Lease.f k' l nt nw s tr un tk rk a b = some y) : x = y := by
  have e1 := uniq (task_Lease.mono l nt nw s tr un tk rk a b) (ev_at 2 fun k => lease_eq k l nt nw s tr un tk rk a b) h
  have e2 := uniq (millhandref24_Lease.mono l nt nw s tr un tk rk a b) (ev_at 3 fun k => rLease_eq k l nt nw s tr un tk rk a b hs) h'
  rw [e1, e2]
theorem same_Done {k k' : Nat} {l : List Int} {nt nw s tr un tk rk a : Int} (hs : 0 ≤ s) {x y : TT} (h : task_Done.f k l nt nw s tr un tk rk a = some x) (h' : millhandref24_Done.f k' l nt nw s tr un tk rk a = some y) : x = y := by
  have e1 := uniq (task_Done.mono l nt nw s tr un tk rk a) (ev_at 2 fun k => done_eq k l nt nw s tr un tk rk a) h
  have e2 := uniq (millhandref24_Done.mono l nt nw s tr un tk rk a) (ev_at 3 fun k => rDone_eq k l nt nw s tr un tk rk a hs) h'
  rw [e1, e2]
theorem same_Fail {k k' : Nat} {l : List Int} {nt nw s tr un tk rk a b : Int} (hs : 0 ≤ s) {x y : TT} (h : task_Fail.f k l nt nw s tr un tk rk a b = some x) (h' : millhandref24_Fail.f k' l nt nw s tr un tk rk a b = some y) : x = y := by
  have e1 := uniq (task_Fail.mono l nt nw s tr un tk rk a b) (fail_ev l nt nw s tr un tk rk a b) h
  have e2 := uniq (millhandref24_Fail.mono l nt nw s tr un tk rk a b) (rFail_ev l nt nw s tr un tk rk a b hs) h'
  rw [e1, e2]
theorem same_Beat {k k' : Nat} {l : List Int} {nt nw s tr un tk rk a b : Int} (hs : 0 ≤ s) {x y : TT} (h : task_Beat.f k l nt nw s tr un tk rk a b = some x) (h' : millhandref24_Beat.f k' l nt nw s tr un tk rk a b = some y) : x = y := by
  have e1 := uniq (task_Beat.mono l nt nw s tr un tk rk a b) (ev_at 2 fun k => beat_eq k l nt nw s tr un tk rk a b) h
  have e2 := uniq (millhandref24_Beat.mono l nt nw s tr un tk rk a b) (ev_at 3 fun k => rBeat_eq k l nt nw s tr un tk rk a b hs) h'
  rw [e1, e2]
theorem same_Wake {k k' : Nat} {l : List Int} {nt nw s tr un tk rk a b : Int} (hs : 0 ≤ s) {x y : TT} (h : task_Wake.f k l nt nw s tr un tk rk a b = some x) (h' : millhandref24_Wake.f k' l nt nw s tr un tk rk a b = some y) : x = y := by
  have e1 := uniq (task_Wake.mono l nt nw s tr un tk rk a b) (ev_at 2 fun k => wake_eq k l nt nw s tr un tk rk a b) h
  have e2 := uniq (millhandref24_Wake.mono l nt nw s tr un tk rk a b) (ev_at 3 fun k => rWake_eq k l nt nw s tr un tk rk a b hs) h'
  rw [e1, e2]
theorem same_Lapse {k k' : Nat} {l : List Int} {nt nw s tr un tk rk b : Int} (hs : 0 ≤ s) {x y : TT} (h : task_Lapse.f k l nt nw s tr un tk rk b = some x) (h' : millhandref24_Lapse.f k' l nt nw s tr un tk rk b = some y) : x = y := by
  have e1 := uniq (task_Lapse.mono l nt nw s tr un tk rk b) (lapse_ev l nt nw s tr un tk rk b) h
  have e2 := uniq (millhandref24_Lapse.mono l nt nw s tr un tk rk b) (rLapse_ev l nt nw s tr un tk rk b hs) h'
  rw [e1, e2]
theorem same_Drop {k k' : Nat} {l : List Int} {nt nw s tr un tk rk : Int} (hs : 0 ≤ s) {x y : TT} (h : task_Drop.f k l nt nw s tr un tk rk = some x) (h' : millhandref24_Drop.f k' l nt nw s tr un tk rk = some y) : x = y := by
  have e1 := uniq (task_Drop.mono l nt nw s tr un tk rk) (ev_at 2 fun k => drop_eq k l nt nw s tr un tk rk) h
  have e2 := uniq (millhandref24_Drop.mono l nt nw s tr un tk rk) (ev_at 3 fun k => rDrop_eq k l nt nw s tr un tk rk hs) h'
  rw [e1, e2]
theorem same_Pause {k k' : Nat} {l : List Int} {nt nw a : Int} {x y : Int × Int} (h : task_Pause.f k l nt nw a = some x) (h' : millhandref24_Pause.f k' l nt nw a = some y) : x = y := by
  have e1 := uniq (task_Pause.mono l nt nw a) (Pause_evS l nt nw a) h
  have e2 := uniq (millhandref24_Pause.mono l nt nw a) (rPause_ev l nt nw a) h'
  rw [e1, e2]
theorem same_Check {k k' : Nat} {l : List Int} {nt nw s tr un tk rk : Int} (hs : 0 ≤ s) {x y : Int} (h : task_Check.f k l nt nw s tr un tk rk = some x) (h' : millhandref24_Check.f k' l nt nw s tr un tk rk = some y) : x = y := by
  have e1 := uniq (task_Check.mono l nt nw s tr un tk rk) (check_ev l nt nw s tr un tk rk) h
  have e2 := uniq (millhandref24_Check.mono l nt nw s tr un tk rk) (ev_at 3 fun k => rcheck_eq k l nt nw s tr un tk rk hs) h'
  rw [e1, e2]
theorem tt_eq5 {a1 a2 a3 a4 a5 a6 b1 b2 b3 b4 b5 b6 : Int} (h : ((a1, a2, a3, a4, a5, a6) : TT) = (b1, b2, b3, b4, b5, b6)) : (a1 == b1 && (a2 == b2 && (a3 == b3 && (a4 == b4 && (a5 == b5))))) = true := by
  simp only [Prod.mk.injEq] at h
  obtain ⟨rfl, rfl, rfl, rfl, rfl, rfl⟩ := h
  simp
theorem tt_eq6 {a1 a2 a3 a4 a5 a6 b1 b2 b3 b4 b5 b6 : Int} (h : ((a1, a2, a3, a4, a5, a6) : TT) = (b1, b2, b3, b4, b5, b6)) : a6 = b6 := congrArg (fun x : TT => x.2.2.2.2.2) h
theorem tt_and {p q : Prop} (a : p) (b : q) : p ∧ q := ⟨a, b⟩
end Go.Proofs.Ytbgfjhnbmfgccaa.R

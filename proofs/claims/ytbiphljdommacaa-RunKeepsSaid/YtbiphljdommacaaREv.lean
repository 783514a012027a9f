/- What a run's functions come to, in plain words. -/
import Derived.Test.YtbiphljdommacaaRx30
import Derived.Test.YtbiphljdommacaaRx33
import Derived.Test.YtbiphljdommacaaRx34
import Derived.Test.YtbiphljdommacaaRx35
import Derived.Test.YtbiphljdommacaaRx36
import Derived.Test.YtbiphljdommacaaRx24
import Derived.Test.YtbiphljdommacaaRx27
import Derived.Test.YtbiphljdommacaaRx26
import Derived.Test.YtbiphljdommacaaRx32
import Derived.Test.YtbiphljdommacaaRx25
import Derived.Test.YtbiphljdommacaaRPl
namespace Go.Proofs.Ytbiphljdommacaa.R
open Go.RowKit Go.Proofs.YtbiphljdommacaaW.PrintWords Go.Proofs.YtbiphljdommacaaW.PrintLast Go.Proofs.YtbiphljdommacaaW.PrintMore Go.Proofs.Ytbiphljdommacaa.Plain
set_option linter.unusedVariables false
set_option linter.unusedSimpArgs false
/-! ### what is done to runs -/
def mkT (x : TT) : TaskT := ⟨x.1, x.2.1, x.2.2.1, x.2.2.2.1, x.2.2.2.2.1⟩
def tk (ts : List TaskT) (i : Nat) : TaskT := rd_T35 ts (i : Int)
theorem tk_at (ts : List TaskT) (i : Nat) (h : i < ts.length) : tk ts i = ts[i] := rd_task ts i h
theorem tk_set (ts : List TaskT) (i j : Nat) (t : TaskT) (h : j < ts.length) : tk (ts.set i t) j = if i = j then t else tk ts j := by
  rw [tk_at _ _ (by rw [List.length_set]; exact h), tk_at _ _ h, List.getElem_set]
theorem twin_l0 (id : Int) (key : ByteArray) (ns : List NodeT) (st : Int) (ts : List TaskT) (hn : ns.length ≤ 1000) (hf : ∀ x ∈ ns, x.f0.length ≤ 100000) : ∀ (d i : Nat) (acc : List NodeT), i + d = ns.length → acc.length + d ≤ 1000 →
    Ev (fun k => run_Twin.l0 k ns (ns.length : Int) (i : Int) id key acc st ts) (id, key, acc ++ ns.drop i, st, ts)
  | 0, i, acc, h, ha => by
    rw [List.drop_of_length_le (by omega), List.append_nil]
    exact Ev.step (fun _ => run_Twin.l0.eq_2 ..) (ev_neg (by omega) (Ev.now _))
  | d + 1, i, acc, h, ha => by
    have hi : i < ns.length := by omega
    have hl := hf _ (List.getElem_mem hi)
    refine Ev.step (fun _ => run_Twin.l0.eq_2 ..) (ev_pos (by omega) (ev_pos (by omega) (ev_pos (by omega) ?_)))
    rw [rd_node ns i hi]
    have hc : Ev (fun _ => slices_Clone_int_int.f ns[i].f0) ns[i].f0 := by
      unfold slices_Clone_int_int.f
      exact Ev.bind (Ev.now _) (ev_pos (by rw [List.length_nil]; omega) (Ev.now _))
    refine Ev.bind hc (ev_pos (by omega) ?_)
    rw [w64 (by omega) (by omega)]
    refine ev_eq (twin_l0 id key ns st ts hn hf d (i + 1) _ (by omega) (by rw [List.length_append, List.length_singleton]; omega)) ?_
    rw [List.append_assoc, List.singleton_append, ← List.drop_eq_getElem_cons hi]
theorem twin_ev (id : Int) (key : ByteArray) (ns : List NodeT) (st : Int) (ts : List TaskT) (hn : ns.length ≤ 1000) (hf : ∀ x ∈ ns, x.f0.length ≤ 100000) (ht : ts.length ≤ 1000) : Ev (fun k => run_Twin.f k id key ns st ts) (id, key, ns, st, ts) := by
  unfold run_Twin.f
  have hc : Ev (fun _ => slices_Clone_api_Task.f ts) ts := by
    unfold slices_Clone_api_Task.f
    exact Ev.bind (Ev.now _) (ev_pos (by rw [List.length_nil]; omega) (Ev.now _))
  exact Ev.bind hc (twin_l0 id key ns st ts hn hf ns.length 0 [] (by omega) (by rw [List.length_nil]; omega))
/-- What has not ended is dropped. -/
def dropAt (x : NodeT) (t : TaskT) : TT := dropS x.f1 x.f2 t.f0 t.f1 t.f2 t.f3 t.f4
def dropL : Nat → List NodeT → List TaskT → List TaskT
  | _, [], ts => ts
  | i, x :: r, ts => dropL (i + 1) r (if (dropAt x (tk ts i)).2.2.2.2.2 = 0 then ts.set i (mkT (dropAt x (tk ts i))) else ts)
theorem drop_l0 (id : Int) (key : ByteArray) (ns : List NodeT) (st : Int) (hn : ns.length ≤ 1000) : ∀ (d i : Nat) (ts : List TaskT), i + d = ns.length → ts.length = ns.length →
    Ev (fun k => run_drop.l0 k ns (ns.length : Int) (i : Int) id key ns st ts) (dropL i (ns.drop i) ts)
  | 0, i, ts, h, ht => by
    rw [List.drop_of_length_le (by omega), dropL]
    exact Ev.step (fun _ => run_drop.l0.eq_2 ..) (ev_neg (by omega) (Ev.now _))
  | d + 1, i, ts, h, ht => by
    have hi : i < ns.length := by omega
    refine Ev.step (fun _ => run_drop.l0.eq_2 ..) (ev_pos (by omega) (ev_pos (by omega) (ev_pos (by omega) (ev_pos (by omega) ?_))))
    rw [rd_node ns i hi, List.drop_eq_getElem_cons hi, dropL]
    refine Ev.bind (ev_at 2 fun k => drop_eq k ns[i].f0 ns[i].f1 ns[i].f2 _ _ _ _ _) ?_
    show Ev (fun k => if (dropAt ns[i] (tk ts i)).2.2.2.2.2 = 0 then _ else _) _
    by_cases he : (dropAt ns[i] (tk ts i)).2.2.2.2.2 = 0
    · refine ev_pos he ?_
      rw [if_pos he, w64 (by omega) (by omega), Int.toNat_natCast]
      exact drop_l0 id key ns st hn d (i + 1) _ (by omega) (by rw [List.length_set]; exact ht)
    · refine ev_neg he ?_
      rw [if_neg he, w64 (by omega) (by omega)]
      exact drop_l0 id key ns st hn d (i + 1) ts (by omega) ht
theorem drop_ev (id : Int) (key : ByteArray) (ns : List NodeT) (st : Int) (ts : List TaskT) (hn : ns.length ≤ 1000) (ht : ts.length = ns.length) : Ev (fun k => run_drop.f k id key ns st ts) (dropL 0 ns ts) := by
  unfold run_drop.f
  exact drop_l0 id key ns st hn ns.length 0 ts (by omega) ht
/-- What is blocked, and whose needs are done, is opened. -/
def openAt (x : NodeT) (t : TaskT) (rank : Int) : TT := openS x.f1 x.f2 t.f0 t.f1 t.f2 t.f3 t.f4 rank
def openL : Nat → List NodeT → List TaskT → Int → Int × List TaskT
  | _, [], ts, rank => (rank, ts)
  | i, x :: r, ts, rank => if (tk ts i).f0 = 0 ∧ metS ts x.f0 = true then openL (i + 1) r (ts.set i (mkT (openAt x (tk ts i) rank))) (wrap64 (rank + 1)) else openL (i + 1) r ts rank
theorem open_l0 (id : Int) (key : ByteArray) (ns : List NodeT) (st : Int) (hn : ns.length ≤ 1000) (hf : ∀ x ∈ ns, x.f0.length ≤ 100000) (hr : ∀ x ∈ ns, ∀ k ∈ x.f0, 0 ≤ k ∧ k < (ns.length : Int)) : ∀ (d i : Nat) (ts : List TaskT) (rank : Int), i + d = ns.length → ts.length = ns.length →
    Ev (fun k => run_open.l0 k rank ns (ns.length : Int) (i : Int) id key ns st ts) (openL i (ns.drop i) ts rank)
  | 0, i, ts, rank, h, ht => by
    rw [List.drop_of_length_le (by omega), openL]
    exact Ev.step (fun _ => run_open.l0.eq_2 ..) (ev_neg (by omega) (Ev.now _))
  | d + 1, i, ts, rank, h, ht => by
    have hi : i < ns.length := by omega
    have hm := List.getElem_mem hi
    refine Ev.step (fun _ => run_open.l0.eq_2 ..) (ev_pos (by omega) (ev_pos (by omega) (ev_pos (by omega) (ev_pos (by omega) ?_))))
    rw [rd_node ns i hi, List.drop_eq_getElem_cons hi, openL]
    show Ev (fun k => if (tk ts i).f0 = 0 then _ else _) _
    by_cases h0 : (tk ts i).f0 = 0
    · refine ev_pos h0 (Ev.bind (met_ev id key ns st ts ns[i].f0 ns[i].f1 ns[i].f2 (hf _ hm) (by rw [ht]; exact hr _ hm)) ?_)
      by_cases h1 : metS ts ns[i].f0 = true
      · refine ev_pos h1 (Ev.bind (ev_at 2 fun k => open_eq k ns[i].f0 ns[i].f1 ns[i].f2 _ _ _ _ _ rank) ?_)
        rw [if_pos ⟨h0, h1⟩, w64 (show -9223372036854775808 ≤ (i : Int) + 1 by omega) (by omega), Int.toNat_natCast]
        exact open_l0 id key ns st hn hf hr d (i + 1) _ _ (by omega) (by rw [List.length_set]; exact ht)
      · refine ev_neg h1 ?_
        rw [if_neg (fun z => h1 z.2), w64 (show -9223372036854775808 ≤ (i : Int) + 1 by omega) (by omega)]
        exact open_l0 id key ns st hn hf hr d (i + 1) ts rank (by omega) ht
    · refine ev_neg h0 ?_
      rw [if_neg (fun z => h0 z.1), w64 (show -9223372036854775808 ≤ (i : Int) + 1 by omega) (by omega)]
      exact open_l0 id key ns st hn hf hr d (i + 1) ts rank (by omega) ht
theorem open_ev (id : Int) (key : ByteArray) (ns : List NodeT) (st : Int) (ts : List TaskT) (rank : Int) (hn : ns.length ≤ 1000) (hf : ∀ x ∈ ns, x.f0.length ≤ 100000) (hr : ∀ x ∈ ns, ∀ k ∈ x.f0, 0 ≤ k ∧ k < (ns.length : Int)) (ht : ts.length = ns.length) :
    Ev (fun k => run_open.f k id key ns st ts rank) (openL 0 ns ts rank) := by
  unfold run_open.f
  exact open_l0 id key ns st hn hf hr ns.length 0 ts rank (by omega) ht
theorem ranked_ev (b : Int) : Ev (fun _ => run_ranked.f b) (decide (0 ≤ b ∧ b ≤ 1099511627764)) := by
  unfold run_ranked.f
  by_cases hb : b ≥ 0
  · exact ev_pos hb (ev_some (decide_eq_decide.mpr (by omega)))
  · exact ev_neg hb (ev_some (decide_eq_false (by omega)).symm)
abbrev RunA6 := Int × ByteArray × List NodeT × Int × List TaskT × Int
def errA (e : Int) : RunA6 := (0, ⟨#[]⟩, [], 0, [], e)
/-- A run whose task i has become t. -/
def withS (id : Int) (key : ByteArray) (ns : List NodeT) (ts : List TaskT) (i : Nat) (t : TaskT) : RunA6 :=
  if t.f0 = 5 then (id, key, ns, 3, dropL 0 ns (ts.set i t), 0) else if allS (ts.set i t) [4] = true then (id, key, ns, 2, ts.set i t, 0) else (id, key, ns, 1, ts.set i t, 0)
def turnS (f : NodeT → TaskT → TT) (id : Int) (key : ByteArray) (ns : List NodeT) (st : Int) (ts : List TaskT) (i : Int) (fit : Bool) : RunA6 :=
  if mayRun id key ns st ts = true then (if 0 ≤ i ∧ i < (ts.length : Int) then (if st = 1 then (if fit = true then (if (f (ns.getD i.toNat ⟨[], 0, 0⟩) (tk ts i.toNat)).2.2.2.2.2 = 0 then withS id key ns ts i.toNat (mkT (f (ns.getD i.toNat ⟨[], 0, 0⟩) (tk ts i.toNat)))
    else errA (f (ns.getD i.toNat ⟨[], 0, 0⟩) (tk ts i.toNat)).2.2.2.2.2) else errA 2) else errA 250) else errA 2) else errA 8
theorem may_len {id : Int} {key : ByteArray} {ns : List NodeT} {st : Int} {ts : List TaskT} (h : mayRun id key ns st ts = true) : mayS ns = true ∧ ts.length = ns.length ∧ tasksOk ts 0 ns = true ∧ standsS ns st ts = true ∧ (0 ≤ id ∧ id ≤ 1099511627776 ∧ 1 ≤ key.size ∧ key.size ≤ 24) := by
  unfold mayRun at h
  simp only [Bool.and_eq_true, decide_eq_true_eq] at h
  exact ⟨h.2.1, h.2.2.1, h.2.2.2.1, h.2.2.2.2, h.1⟩
theorem turn_ev (D : Nat → List Int → Int → Int → Int → Int → Int → Int → Int → Option (Int × Int × Int × Int × Int × Int)) (f : NodeT → TaskT → TT) (hD : ∀ (x : NodeT) (t : TaskT), Ev (fun k => D k x.f0 x.f1 x.f2 t.f0 t.f1 t.f2 t.f3 t.f4) (f x t))
    (id : Int) (key : ByteArray) (ns : List NodeT) (st : Int) (ts : List TaskT) (hf : fitS ns) (hx : ∀ x ∈ ns, x.f0.length ≤ 100000) (i : Int) (fit : Bool) (z : Int) : Ev (fun k => run_turn.f D k id key ns st ts i fit z) (turnS f id key ns st ts i fit) := by
  unfold run_turn.f turnS
  refine Ev.bind (rchk_ev id key ns st ts hf hx) ?_
  by_cases hm : mayRun id key ns st ts = true
  rotate_left
  · rw [if_neg hm, chkRun, if_neg hm]
    exact ev_neg (by decide) (Ev.now _)
  rw [if_pos hm, chkRun, if_pos hm]
  obtain ⟨hs, hl, htk, hst, _⟩ := may_len hm
  obtain ⟨hn, _, hr⟩ := may_needs hs
  refine ev_pos rfl ?_
  by_cases h1 : i < 0
  · rw [if_neg (by omega), decide_eq_true h1]
    exact ev_pos h1 (Ev.step (fun _ => run_turn.j0.eq_2 ..) (ev_pos rfl (Ev.now _)))
  by_cases h2 : i ≥ (ts.length : Int)
  · rw [if_neg (by omega), decide_eq_true h2]
    exact ev_neg h1 (Ev.step (fun _ => run_turn.j0.eq_2 ..) (ev_pos rfl (Ev.now _)))
  rw [if_pos ⟨by omega, by omega⟩, decide_eq_false h2]
  refine ev_neg h1 (Ev.step (fun _ => run_turn.j0.eq_2 ..) (ev_neg (by decide) ?_))
  by_cases h3 : st = 1
  rotate_left
  · rw [if_neg h3]
    exact ev_neg h3 (Ev.now _)
  rw [if_pos h3]
  refine ev_pos h3 ?_
  cases fit with
  | false => exact ev_neg (by decide) (Ev.now _)
  | true =>
    refine ev_pos rfl (ev_pos (by omega) (ev_pos (by omega) (ev_pos (by omega) ?_)))
    obtain ⟨n, rfl⟩ : ∃ n : Nat, i = (n : Int) := ⟨i.toNat, by omega⟩
    have hi : n < ns.length := by omega
    rw [Int.toNat_natCast, if_pos rfl, rd_node ns n hi, show ns.getD n ⟨[], 0, 0⟩ = ns[n] by rw [List.getD_eq_getElem?_getD, List.getElem?_eq_getElem hi]; rfl]
    refine Ev.bind (hD ns[n] (tk ts n)) ?_
    by_cases he : (f ns[n] (tk ts n)).2.2.2.2.2 = 0
    rotate_left
    · rw [if_neg he]
      exact ev_neg he (Ev.now _)
    rw [if_pos he]
    refine ev_pos he (Ev.bind (twin_ev id key ns st ts (by omega) hx (by omega)) (ev_pos (by show (n : Int) < (ts.length : Int); omega) (Ev.bind (Ev.now _) ?_)))
    show Ev (fun k => if (mkT (f ns[n] (tk ts n))).f0 = 5 then _ else _) _
    unfold withS
    by_cases h5 : (mkT (f ns[n] (tk ts n))).f0 = 5
    · rw [if_pos h5]
      exact ev_pos h5 (Ev.bind (drop_ev id key ns 3 (ts.set n (mkT (f ns[n] (tk ts n)))) (by omega) (by rw [List.length_set]; exact hl)) (Ev.now _))
    · rw [if_neg h5]
      refine ev_neg h5 (Ev.bind (all_ev id key ns st (ts.set n (mkT (f ns[n] (tk ts n)))) [4] (by simp) (by rw [List.length_set]; omega)) ?_)
      by_cases h6 : allS (ts.set n (mkT (f ns[n] (tk ts n)))) [4] = true
      · rw [if_pos h6, if_pos h6]
        exact Ev.now _
      · rw [if_neg h6, if_neg h6]
        exact h3 ▸ Ev.now _
section
variable (id : Int) (key : ByteArray) (ns : List NodeT) (st : Int) (ts : List TaskT) (hf : fitS ns) (hx : ∀ x ∈ ns, x.f0.length ≤ 100000) (i : Int)
def fLease (a b : Int) (x : NodeT) (t : TaskT) : TT := leaseS x.f1 x.f2 t.f0 t.f1 t.f2 t.f3 t.f4 a b
def fDone (a : Int) (x : NodeT) (t : TaskT) : TT := doneS x.f1 x.f2 t.f0 t.f1 t.f2 t.f3 t.f4 a
def fFail (a b : Int) (x : NodeT) (t : TaskT) : TT := failS x.f1 x.f2 t.f0 t.f1 t.f2 t.f3 t.f4 a b
def fBeat (a b : Int) (x : NodeT) (t : TaskT) : TT := beatS x.f1 x.f2 t.f0 t.f1 t.f2 t.f3 t.f4 a b
def fWake (a b : Int) (x : NodeT) (t : TaskT) : TT := wakeS x.f1 x.f2 t.f0 t.f1 t.f2 t.f3 t.f4 a b
def fLapse (b : Int) (x : NodeT) (t : TaskT) : TT := lapseS x.f1 x.f2 t.f0 t.f1 t.f2 t.f3 t.f4 b
include hf hx
theorem Lease_ev (a b : Int) : Ev (fun k => run_Lease.f k id key ns st ts i a b) (turnS (fLease a b) id key ns st ts i true) := by
  unfold run_Lease.f
  refine Ev.bind (turn_ev _ (fLease a b) (fun x t => ?_) id key ns st ts hf hx i true a) (Ev.now _)
  unfold run_Lease_1.f
  exact Ev.bind (ev_at 2 fun k => lease_eq k x.f0 x.f1 x.f2 t.f0 t.f1 t.f2 t.f3 t.f4 a b) (Ev.now _)
theorem Fail_ev (a b : Int) : Ev (fun k => run_Fail.f k id key ns st ts i a b) (turnS (fFail a b) id key ns st ts i true) := by
  unfold run_Fail.f
  refine Ev.bind (turn_ev _ (fFail a b) (fun x t => ?_) id key ns st ts hf hx i true a) (Ev.now _)
  unfold run_Fail_1.f
  exact Ev.bind (fail_ev x.f0 x.f1 x.f2 t.f0 t.f1 t.f2 t.f3 t.f4 a b) (Ev.now _)
theorem Beat_ev (a b : Int) : Ev (fun k => run_Beat.f k id key ns st ts i a b) (turnS (fBeat a b) id key ns st ts i true) := by
  unfold run_Beat.f
  refine Ev.bind (turn_ev _ (fBeat a b) (fun x t => ?_) id key ns st ts hf hx i true a) (Ev.now _)
  unfold run_Beat_1.f
  exact Ev.bind (ev_at 2 fun k => beat_eq k x.f0 x.f1 x.f2 t.f0 t.f1 t.f2 t.f3 t.f4 a b) (Ev.now _)
theorem Wake_ev (a b : Int) : Ev (fun k => run_Wake.f k id key ns st ts i a b) (turnS (fWake a b) id key ns st ts i true) := by
  unfold run_Wake.f
  refine Ev.bind (turn_ev _ (fWake a b) (fun x t => ?_) id key ns st ts hf hx i true a) (Ev.now _)
  unfold run_Wake_1.f
  exact Ev.bind (ev_at 2 fun k => wake_eq k x.f0 x.f1 x.f2 t.f0 t.f1 t.f2 t.f3 t.f4 a b) (Ev.now _)
theorem Lapse_ev (b : Int) : Ev (fun k => run_Lapse.f k id key ns st ts i b) (turnS (fLapse b) id key ns st ts i true) := by
  unfold run_Lapse.f
  refine Ev.bind (turn_ev _ (fLapse b) (fun x t => ?_) id key ns st ts hf hx i true b) (Ev.now _)
  unfold run_Lapse_1.f
  exact Ev.bind (lapse_ev x.f0 x.f1 x.f2 t.f0 t.f1 t.f2 t.f3 t.f4 b) (Ev.now _)
def cancelS : RunA6 := if mayRun id key ns st ts = true then (if st = 1 then (id, key, ns, 4, dropL 0 ns ts, 0) else errA 250) else errA 8
omit hf hx in
theorem chk_zero : chkRun id key ns st ts = 0 ↔ mayRun id key ns st ts = true := by
  unfold chkRun
  cases mayRun id key ns st ts <;> simp
theorem Cancel_ev : Ev (fun k => run_Cancel.f k id key ns st ts) (cancelS id key ns st ts) := by
  unfold run_Cancel.f cancelS
  refine Ev.bind (rchk_ev id key ns st ts hf hx) ?_
  by_cases hm : mayRun id key ns st ts = true
  rotate_left
  · rw [if_neg hm, chkRun, if_neg hm]
    exact ev_neg (by decide) (Ev.now _)
  rw [if_pos hm, chkRun, if_pos hm]
  obtain ⟨hs, hl, _, _, _⟩ := may_len hm
  obtain ⟨hn, _, _⟩ := may_needs hs
  refine ev_pos rfl (ev_ite (fun _ => ?_) (fun _ => Ev.now _))
  exact Ev.bind (twin_ev id key ns st ts (by omega) hx (by omega)) (Ev.bind (drop_ev id key ns 4 ts (by omega) hl) (Ev.now _))
abbrev RunA7 := Int × ByteArray × List NodeT × Int × List TaskT × Int × Int
def completeS (a b : Int) : RunA7 :=
  if (turnS (fDone a) id key ns st ts i (decide (0 ≤ b ∧ b ≤ 1099511627764))).2.2.2.2.2 = 0 then
    ((turnS (fDone a) id key ns st ts i (decide (0 ≤ b ∧ b ≤ 1099511627764))).1, (turnS (fDone a) id key ns st ts i (decide (0 ≤ b ∧ b ≤ 1099511627764))).2.1, (turnS (fDone a) id key ns st ts i (decide (0 ≤ b ∧ b ≤ 1099511627764))).2.2.1, (turnS (fDone a) id key ns st ts i (decide (0 ≤ b ∧ b ≤ 1099511627764))).2.2.2.1,
      (openL 0 ns (turnS (fDone a) id key ns st ts i (decide (0 ≤ b ∧ b ≤ 1099511627764))).2.2.2.2.1 b).2, (openL 0 ns (turnS (fDone a) id key ns st ts i (decide (0 ≤ b ∧ b ≤ 1099511627764))).2.2.2.2.1 b).1, 0)
  else (0, ⟨#[]⟩, [], 0, [], 0, (turnS (fDone a) id key ns st ts i (decide (0 ≤ b ∧ b ≤ 1099511627764))).2.2.2.2.2)
omit hf hx in
theorem dropL_len : ∀ (r : List NodeT) (i : Nat) (ts : List TaskT), (dropL i r ts).length = ts.length
  | [], _, _ => rfl
  | x :: r, i, ts => by
    rw [dropL, dropL_len r (i + 1)]
    split
    · rw [List.length_set]
    · rfl
omit hf hx in
/-- Where what is done succeeds: the run's nodes are the same. -/
theorem turn_ok (f : NodeT → TaskT → TT) (fit : Bool) (h : (turnS f id key ns st ts i fit).2.2.2.2.2 = 0) : ∃ n : Nat, i = (n : Int) ∧ n < ns.length ∧ mayRun id key ns st ts = true ∧ st = 1 ∧ fit = true ∧ (f (ns.getD n ⟨[], 0, 0⟩) (tk ts n)).2.2.2.2.2 = 0 ∧ turnS f id key ns st ts i fit = withS id key ns ts n (mkT (f (ns.getD n ⟨[], 0, 0⟩) (tk ts n))) := by
  unfold turnS at h ⊢
  by_cases hm : mayRun id key ns st ts = true
  rotate_left
  · rw [if_neg hm] at h; cases h
  rw [if_pos hm] at h ⊢
  obtain ⟨hs, hl, _, _, _⟩ := may_len hm
  by_cases hi : 0 ≤ i ∧ i < (ts.length : Int)
  rotate_left
  · rw [if_neg hi] at h; cases h
  rw [if_pos hi] at h ⊢
  by_cases h1 : st = 1
  rotate_left
  · rw [if_neg h1] at h; cases h
  rw [if_pos h1] at h ⊢
  cases fit with
  | false => rw [if_neg (by decide)] at h; cases h
  | true =>
    rw [if_pos rfl] at h ⊢
    by_cases he : (f (ns.getD i.toNat ⟨[], 0, 0⟩) (tk ts i.toNat)).2.2.2.2.2 = 0
    rotate_left
    · rw [if_neg he] at h; exact absurd h he
    rw [if_pos he]
    exact ⟨i.toNat, by omega, by omega, hm, h1, rfl, he, rfl⟩
omit hf hx in
theorem with_len (n : Nat) (t : TaskT) (hl : ts.length = ns.length) : (withS id key ns ts n t).2.2.1 = ns ∧ (withS id key ns ts n t).2.2.2.2.1.length = ns.length ∧ (withS id key ns ts n t).1 = id ∧ (withS id key ns ts n t).2.1 = key ∧ (withS id key ns ts n t).2.2.2.2.2 = 0 := by
  unfold withS
  split
  · exact ⟨rfl, by show (dropL 0 ns (ts.set n t)).length = _; rw [dropL_len, List.length_set]; exact hl, rfl, rfl, rfl⟩
  · split <;> exact ⟨rfl, by show (ts.set n t).length = _; rw [List.length_set]; exact hl, rfl, rfl, rfl⟩
theorem Complete_ev (a b : Int) : Ev (fun k => run_Complete.f k id key ns st ts i a b) (completeS id key ns st ts i a b) := by
  unfold run_Complete.f completeS
  refine Ev.bind (ranked_ev b) ?_
  have ht := turn_ev (fun k_ b0_ b1_ b2_ b3_ b4_ b5_ b6_ b7_ => run_Complete_1.f k_ b0_ b1_ b2_ b3_ b4_ b5_ b6_ b7_ a) (fDone a) (fun x t => by
    unfold run_Complete_1.f
    exact Ev.bind (ev_at 2 fun k => done_eq k x.f0 x.f1 x.f2 t.f0 t.f1 t.f2 t.f3 t.f4 a) (Ev.now _)) id key ns st ts hf hx i (decide (0 ≤ b ∧ b ≤ 1099511627764)) a
  refine Ev.bind ht ?_
  by_cases he : (turnS (fDone a) id key ns st ts i (decide (0 ≤ b ∧ b ≤ 1099511627764))).2.2.2.2.2 = 0
  rotate_left
  · rw [if_neg he]
    exact ev_neg he (Ev.now _)
  rw [if_pos he]
  refine ev_pos he ?_
  obtain ⟨n, rfl, hn, hm, h1, hfit, he2, e⟩ := turn_ok id key ns st ts i (fDone a) _ he
  obtain ⟨hs, hl, _, _, _⟩ := may_len hm
  obtain ⟨h12, _, hr⟩ := may_needs hs
  obtain ⟨e1, e2, _⟩ := with_len id key ns ts n (mkT (fDone a (ns.getD n ⟨[], 0, 0⟩) (tk ts n))) hl
  rw [e, e1]
  exact Ev.bind (open_ev _ _ ns _ _ b (by omega) hx hr e2) (Ev.now _)
end
/-- A run at its start. -/
def startS (ns : List NodeT) : Int × List TaskT := openL 0 ns (List.replicate ns.length z35) 0
theorem Start_ev (ns : List NodeT) (hf : fitS ns) (hx0 : mayS ns = true → ∀ x ∈ ns, x.f0.length ≤ 100000) :
    Ev (fun k => run_Start.f k 1 (⟨#[97]⟩ : ByteArray) ns 0) (if mayS ns = true then (1, ⟨#[97]⟩, ns, 1, (startS ns).2, (startS ns).1, 0) else (0, ⟨#[]⟩, [], 0, [], 0, 230)) := by
  unfold run_Start.f
  refine ev_neg (by decide) ?_
  refine Ev.step (fun _ => run_Start.j0.eq_2 ..) (ev_neg (by decide) (ev_neg (by decide) (ev_neg (by decide) (Ev.bind (dcheck_ev ns hf) ?_))))
  by_cases hm : mayS ns = true
  rotate_left
  · rw [if_neg hm, checkS, if_neg hm]
    exact ev_neg (by decide) (Ev.now _)
  have hx := hx0 hm
  rw [if_pos hm, checkS, if_pos hm]
  obtain ⟨h12, _, hr⟩ := may_needs hm
  refine ev_pos rfl (Ev.bind (ranked_ev 0) (ev_pos (by decide) (ev_pos (by omega) (ev_pos (by omega) ?_))))
  rw [Int.toNat_natCast]
  refine Ev.bind (twin_ev 1 _ ns 1 _ (by omega) hx (by rw [List.length_replicate]; omega)) (Ev.bind (open_ev _ _ ns _ _ 0 (by omega) hx hr List.length_replicate) (Ev.now _))
end Go.Proofs.Ytbiphljdommacaa.R

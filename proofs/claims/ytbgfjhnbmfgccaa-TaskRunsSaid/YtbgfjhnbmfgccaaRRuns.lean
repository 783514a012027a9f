/- Runs of deeds. -/
import Derived.Test.YtbgfjhnbmfgccaaRx10
import Derived.Test.YtbgfjhnbmfgccaaRx11
import Derived.Test.YtbgfjhnbmfgccaaRx8
import Derived.Test.YtbgfjhnbmfgccaaRTask
import Derived.Test.YtbgfjhnbmfgccaaROp
namespace Go.Proofs.Ytbgfjhnbmfgccaa.R
open Go.RowKit Go.Proofs.YtbgfjhnbmfgccaaW.PrintWords Go.Proofs.Ytbgfjhnbmfgccaa.Plain
set_option linter.unusedVariables false

/-! ### what is done to a task -/
abbrev stS (x : TT) : Int × Int × Int × Int × Int × Bool := (x.1, x.2.1, x.2.2.1, x.2.2.2.1, x.2.2.2.2.1, x.2.2.2.2.2 == 0)
/-- Where it is done: the task may stand so, it had not ended, the token was its, and tries rise by a lease alone. -/
def GoodP (nt nw s tr tk a k : Int) (x : TT) : Prop :=
  x.2.2.2.2.2 = 0 → okS nt nw x.1 x.2.1 x.2.2.1 x.2.2.2.1 x.2.2.2.2.1 = true ∧ s < 4 ∧ (2 ≤ k → k ≤ 4 → tk = a) ∧ (if k = 1 then x.2.1 = tr + 1 else x.2.1 = tr)
theorem ok_mk {nt nw s tr un tk rk : Int} (hn : 1 ≤ nt ∧ nt ≤ 5 ∧ 0 ≤ nw ∧ nw ≤ 1048576) (h : BoundP nt tr un tk rk ∧ ShapeP nt s tr un tk rk) : okS nt nw s tr un tk rk = true := by
  unfold okS
  rw [Bool.and_eq_true]
  exact ⟨decide_eq_true hn, decide_eq_true h⟩
theorem open_good (nt nw s tr un tk rk a : Int) : GoodP nt nw s tr tk a 0 (openS nt nw s tr un tk rk a) := by
  intro h
  unfold openS at h ⊢
  by_cases h1 : inS nt nw s tr un tk rk (momS a) 0 = 0
  · rw [if_pos h1] at h ⊢
    obtain ⟨h2, h3, h4⟩ := in_ok h1
    obtain ⟨hn, hb, hs⟩ := ok_both h2
    have ha := of_decide_eq_true h3
    exact ⟨ok_mk hn (by (try dsimp only); omega), by omega, by omega, by simp; omega⟩
  · rw [if_neg h1] at h; exact absurd h h1
theorem lease_good (nt nw s tr un tk rk a b : Int) : GoodP nt nw s tr tk a 1 (leaseS nt nw s tr un tk rk a b) := by
  intro h
  unfold leaseS at h ⊢
  by_cases h1 : inS nt nw s tr un tk rk (decide (1 ≤ a) && momS a && momS b) 1 = 0
  · rw [if_pos h1] at h ⊢
    obtain ⟨h2, h3, h4⟩ := in_ok h1
    obtain ⟨hn, hb, hs⟩ := ok_both h2
    rw [Bool.and_eq_true, Bool.and_eq_true] at h3
    have ha := of_decide_eq_true h3.1.1
    have hm := of_decide_eq_true h3.1.2
    have hb2 := of_decide_eq_true h3.2
    have hw : wrap64 (tr + 1) = tr + 1 := w64 (by omega) (by omega)
    rw [hw]
    exact ⟨ok_mk hn (by (try dsimp only); omega), by omega, by omega, by simp⟩
  · rw [if_neg h1] at h; exact absurd h h1
theorem done_good (nt nw s tr un tk rk a : Int) : GoodP nt nw s tr tk a 2 (doneS nt nw s tr un tk rk a) := by
  intro h
  unfold doneS at h ⊢
  by_cases h1 : heldS nt nw s tr un tk rk true a = 0
  · rw [if_pos h1] at h ⊢
    obtain ⟨h2, _, h4, h5⟩ := held_ok h1
    obtain ⟨hn, hb, hs⟩ := ok_both h2
    exact ⟨ok_mk hn (by (try dsimp only); omega), by omega, fun _ _ => h5, by simp⟩
  · rw [if_neg h1] at h; exact absurd h h1
theorem fails_ok {nt nw tr b : Int} (hn : 1 ≤ nt ∧ nt ≤ 5 ∧ 0 ≤ nw ∧ nw ≤ 1048576) (h1 : 1 ≤ tr) (h2 : tr ≤ nt) (hb : 0 ≤ b ∧ b ≤ 1099511627776) :
    okS nt nw (failsS nt nw tr b).1 (failsS nt nw tr b).2.1 (failsS nt nw tr b).2.2.1 (failsS nt nw tr b).2.2.2.1 (failsS nt nw tr b).2.2.2.2 = true ∧ (failsS nt nw tr b).2.1 = tr := by
  unfold failsS
  have hp := pauseN_range (tr - 1).toNat nw hn.2.2.1 hn.2.2.2
  by_cases h : tr = nt
  · rw [if_pos h]
    exact ⟨ok_mk hn (by (try dsimp only); omega), rfl⟩
  · rw [if_neg h]
    have hw : wrap64 (b + pauseN (tr - 1).toNat nw) = b + pauseN (tr - 1).toNat nw := w64 (by omega) (by omega)
    rw [hw]
    have hm : 0 ≤ mn (b + pauseN (tr - 1).toNat nw) 1099511627776 ∧ mn (b + pauseN (tr - 1).toNat nw) 1099511627776 ≤ 1099511627776 := by unfold mn; split <;> omega
    exact ⟨ok_mk hn (by (try dsimp only); omega), rfl⟩
theorem fail_good (nt nw s tr un tk rk a b : Int) : GoodP nt nw s tr tk a 3 (failS nt nw s tr un tk rk a b) := by
  intro h
  unfold failS at h ⊢
  by_cases h1 : heldS nt nw s tr un tk rk (momS b) a = 0
  · rw [if_pos h1] at h ⊢
    obtain ⟨h2, h3, h4, h5⟩ := held_ok h1
    obtain ⟨hn, hb, hs⟩ := ok_both h2
    obtain ⟨g1, g2⟩ := fails_ok (nw := nw) hn (show 1 ≤ tr by omega) (by omega) (of_decide_eq_true h3)
    exact ⟨g1, by omega, fun _ _ => h5, by simpa [with0] using g2⟩
  · rw [if_neg h1] at h; exact absurd h h1
theorem beat_good (nt nw s tr un tk rk a b : Int) : GoodP nt nw s tr tk a 4 (beatS nt nw s tr un tk rk a b) := by
  intro h
  unfold beatS at h ⊢
  by_cases h1 : heldS nt nw s tr un tk rk (momS b) a = 0
  · rw [if_pos h1] at h ⊢
    obtain ⟨h2, h3, h4, h5⟩ := held_ok h1
    obtain ⟨hn, hb, hs⟩ := ok_both h2
    have hb2 := of_decide_eq_true h3
    have hs2 : 1 ≤ tr ∧ 1 ≤ tk ∧ rk = 0 := by clear hb h h1 h3 h5 hn; omega
    exact ⟨ok_mk hn ⟨⟨hb.1, hb.2.1, hb2.1, hb2.2, hb.2.2.2.2⟩, Or.inr (Or.inr (Or.inl ⟨h4, hs2⟩))⟩, by omega, fun _ _ => h5, by simp⟩
  · rw [if_neg h1] at h; exact absurd h h1
theorem wake_good (nt nw s tr un tk rk a b : Int) : GoodP nt nw s tr tk a 5 (wakeS nt nw s tr un tk rk a b) := by
  intro h
  unfold wakeS at h ⊢
  by_cases h1 : wakeE nt nw s tr un tk rk a b = 0
  · rw [if_pos h1] at h ⊢
    obtain ⟨h2, h3, h4⟩ := in_ok h1
    obtain ⟨hn, hb, hs⟩ := ok_both h2
    rw [Bool.and_eq_true] at h3
    have ha := of_decide_eq_true h3.1
    by_cases hd : dueS s un b = true
    · rw [if_pos hd] at h ⊢
      exact ⟨ok_mk hn (by (try dsimp only); omega), by omega, by omega, by simp⟩
    · rw [if_neg hd] at h; exact absurd h (by decide)
  · rw [if_neg h1] at h; exact absurd h h1
theorem lapse_good (nt nw s tr un tk rk a b : Int) : GoodP nt nw s tr tk a 6 (lapseS nt nw s tr un tk rk b) := by
  intro h
  unfold lapseS at h ⊢
  by_cases h1 : inS nt nw s tr un tk rk (momS b) 2 = 0
  · rw [if_pos h1] at h ⊢
    obtain ⟨h2, h3, h4⟩ := in_ok h1
    obtain ⟨hn, hb, hs⟩ := ok_both h2
    by_cases hd : dueS s un b = true
    · rw [if_pos hd] at h ⊢
      obtain ⟨g1, g2⟩ := fails_ok (nw := nw) hn (show 1 ≤ tr by omega) (by omega) (of_decide_eq_true h3)
      exact ⟨g1, by omega, by omega, by simpa [with0] using g2⟩
    · rw [if_neg hd] at h; exact absurd h (by decide)
  · rw [if_neg h1] at h; exact absurd h h1
theorem drop_good (nt nw s tr un tk rk a : Int) : GoodP nt nw s tr tk a 7 (dropS nt nw s tr un tk rk) := by
  intro h
  unfold dropS at h ⊢
  by_cases h1 : okS nt nw s tr un tk rk = true
  · rw [if_pos h1] at h ⊢
    obtain ⟨hn, hb, hs⟩ := ok_both h1
    by_cases hd : 4 ≤ s ∧ s ≤ 6
    · rw [if_pos hd] at h; exact absurd h (by decide)
    · rw [if_neg hd] at h ⊢
      exact ⟨ok_mk hn (by (try dsimp only); omega), by omega, by omega, by simp⟩
  · rw [if_neg h1] at h; exact absurd h (by decide)
theorem step_ev (l : List Int) (nt nw s tr un tk rk kind a b : Int) (hk : 0 ≤ kind) : ∃ x, Ev (fun k => millhandlaw24_step.f k l nt nw s tr un tk rk kind a b) (stS x) ∧ GoodP nt nw s tr tk a (Int.tmod kind 8) x := by
  have hr : Int.tmod kind 8 = kind % 8 := Int.tmod_eq_emod_of_nonneg hk
  have h8 : 0 ≤ kind % 8 ∧ kind % 8 < 8 := by omega
  unfold millhandlaw24_step.f
  rw [hr]
  by_cases h0 : kind % 8 = 0
  · exact ⟨_, ev_pos h0 (Ev.bind (ev_at 2 fun k => open_eq k l nt nw s tr un tk rk a) (Ev.now _)), by rw [h0]; exact open_good _ _ _ _ _ _ _ _⟩
  by_cases h1 : kind % 8 = 1
  · exact ⟨_, ev_neg h0 (ev_pos h1 (Ev.bind (ev_at 2 fun k => lease_eq k l nt nw s tr un tk rk a b) (Ev.now _))), by rw [h1]; exact lease_good _ _ _ _ _ _ _ _ _⟩
  by_cases h2 : kind % 8 = 2
  · exact ⟨_, ev_neg h0 (ev_neg h1 (ev_pos h2 (Ev.bind (ev_at 2 fun k => done_eq k l nt nw s tr un tk rk a) (Ev.now _)))), by rw [h2]; exact done_good _ _ _ _ _ _ _ _⟩
  by_cases h3 : kind % 8 = 3
  · exact ⟨_, ev_neg h0 (ev_neg h1 (ev_neg h2 (ev_pos h3 (Ev.bind (fail_ev l nt nw s tr un tk rk a b) (Ev.now _))))), by rw [h3]; exact fail_good _ _ _ _ _ _ _ _ _⟩
  by_cases h4 : kind % 8 = 4
  · exact ⟨_, ev_neg h0 (ev_neg h1 (ev_neg h2 (ev_neg h3 (ev_pos h4 (Ev.bind (ev_at 2 fun k => beat_eq k l nt nw s tr un tk rk a b) (Ev.now _)))))), by rw [h4]; exact beat_good _ _ _ _ _ _ _ _ _⟩
  by_cases h5 : kind % 8 = 5
  · exact ⟨_, ev_neg h0 (ev_neg h1 (ev_neg h2 (ev_neg h3 (ev_neg h4 (ev_pos h5 (Ev.bind (ev_at 2 fun k => wake_eq k l nt nw s tr un tk rk a b) (Ev.now _))))))), by rw [h5]; exact wake_good _ _ _ _ _ _ _ _ _⟩
  by_cases h6 : kind % 8 = 6
  · exact ⟨_, ev_neg h0 (ev_neg h1 (ev_neg h2 (ev_neg h3 (ev_neg h4 (ev_neg h5 (ev_pos h6 (Ev.bind (lapse_ev l nt nw s tr un tk rk b) (Ev.now _)))))))), by rw [h6]; exact lapse_good _ _ _ _ _ _ _ _ _⟩
  · exact ⟨_, ev_neg h0 (ev_neg h1 (ev_neg h2 (ev_neg h3 (ev_neg h4 (ev_neg h5 (ev_neg h6 (Ev.bind (ev_at 2 fun k => drop_eq k l nt nw s tr un tk rk) (Ev.now _)))))))), by rw [show kind % 8 = 7 by omega]; exact drop_good _ _ _ _ _ _ _ _⟩
abbrev ActT := S37
theorem rd_act (l : List ActT) (i : Nat) (h : i < l.length) : rd_T37 l (i : Int) = l[i] := by
  simp [rd_T37, List.getD_eq_getElem?_getD, List.getElem?_eq_getElem h]
theorem TaskRuns_l0 (l : List ActT) (hl : l.length ≤ 200) (hk : ∀ x ∈ l, 0 ≤ x.f0) (N : List Int) (nt nw : Int) : ∀ (d i : Nat) (le fi s tr un tk rk : Int), i + d = l.length → okS nt nw s tr un tk rk = true → fi + le = tr → 0 ≤ fi → 0 ≤ le →
    Ev (fun k => millhandlaw24_TaskRuns.l0 k l le fi (i : Int) N nt nw s tr un tk rk) true
  | 0, i, le, fi, s, tr, un, tk, rk, h, ho, hs, hf, hle => by
    obtain ⟨hn, hb, hsh⟩ := ok_both ho
    refine Ev.step (fun _ => millhandlaw24_TaskRuns.l0.eq_2 ..) (ev_neg (by omega) (ev_pos (by rw [w64 (by omega) (by omega)]; omega) (ev_some (decide_eq_true (by omega)))))
  | d + 1, i, le, fi, s, tr, un, tk, rk, h, ho, hs, hf, hle => by
    have hi : i < l.length := by omega
    obtain ⟨hn, hb, hsh⟩ := ok_both ho
    refine Ev.step (fun _ => millhandlaw24_TaskRuns.l0.eq_2 ..) (ev_pos (by omega) (ev_pos (by omega) ?_))
    rw [rd_act l i hi]
    obtain ⟨x, hx, hg⟩ := step_ev N nt nw s tr un tk rk l[i].f0 l[i].f1 l[i].f2 (hk _ (List.getElem_mem hi))
    refine Ev.bind hx ?_
    rw [w64 (i := (i : Int) + 1) (by omega) (by omega)]
    by_cases h0 : x.2.2.2.2.2 = 0
    · obtain ⟨g1, g2, g3, g4⟩ := hg h0
      obtain ⟨hn', hb', hsh'⟩ := ok_both g1
      refine ev_pos (beq_iff_eq.mpr h0) (Ev.bind (check_ev N nt nw x.1 x.2.1 x.2.2.1 x.2.2.2.1 x.2.2.2.2.1) ?_)
      rw [if_pos g1]
      refine ev_pos rfl (ev_neg (by omega) ?_)
      have j2 : Ev (fun k => millhandlaw24_TaskRuns.j2 k l le fi (i : Int) (Int.tmod l[i].f0 8) false N nt nw s tr un tk rk x.1 x.2.1 x.2.2.1 x.2.2.2.1 x.2.2.2.2.1) true := by
        refine Ev.step (fun _ => millhandlaw24_TaskRuns.j2.eq_2 ..) (ev_neg (by simp) ?_)
        rw [w64 (i := (i : Int) + 1) (by omega) (by omega)]
        by_cases h1 : Int.tmod l[i].f0 8 = 1
        · rw [if_pos h1] at g4
          refine ev_pos h1 (ev_neg (by omega) (ev_pos (by rw [w64 (by omega) (by omega)]; exact g4) ?_))
          rw [w64 (by omega) (by omega)]
          exact TaskRuns_l0 l hl hk N nt nw d (i + 1) (le + 1) fi _ _ _ _ _ (by omega) g1 (by omega) hf (by omega)
        · rw [if_neg h1] at g4
          refine ev_neg h1 (ev_pos g4 ?_)
          exact TaskRuns_l0 l hl hk N nt nw d (i + 1) le fi _ _ _ _ _ (by omega) g1 (by omega) hf hle
      by_cases h2 : Int.tmod l[i].f0 8 ≥ 2
      · refine ev_pos h2 ?_
        by_cases h4 : Int.tmod l[i].f0 8 ≤ 4
        · refine ev_pos h4 ?_
          rw [show (tk != l[i].f1) = false from bne_eq_false_iff_eq.mpr (g3 h2 h4)]
          exact j2
        · exact ev_neg h4 j2
      · exact ev_neg h2 j2
    · refine ev_neg (fun e => h0 (beq_iff_eq.mp e)) ?_
      exact TaskRuns_l0 l hl hk N nt nw d (i + 1) le fi s tr un tk rk (by omega) ho hs hf hle
theorem alive_ev : Ev (fun k => millhandlaw24_alive.f k) true := Ev.of millhandlaw24_alive.mono (k := 10) (by decide +kernel)
theorem TaskRuns_ev (l : List ActT) (hk : ∀ x ∈ l, 0 ≤ x.f0) (N : List Int) (nt nw s tr un tk rk : Int) : Ev (fun k => millhandlaw24_TaskRuns.f k N nt nw s tr un tk rk l) true := by
  have hT : Ev (fun k => millhandlaw24_TaskRuns.j0 k l true true N nt nw s tr un tk rk) true := Ev.step (fun _ => millhandlaw24_TaskRuns.j0.eq_2 ..) (ev_pos rfl (Ev.now _))
  unfold millhandlaw24_TaskRuns.f
  refine Ev.bind alive_ev ?_
  by_cases h1 : (N.length : Int) > 1000
  · exact ev_pos h1 hT
  · refine ev_neg h1 ?_
    by_cases h2 : (l.length : Int) > 200
    · exact ev_pos h2 hT
    · refine ev_neg h2 (Ev.bind (check_ev N nt nw s tr un tk rk) ?_)
      by_cases h3 : okS nt nw s tr un tk rk = true
      · rw [if_pos h3]
        obtain ⟨hn, hb, hsh⟩ := ok_both h3
        refine ev_pos rfl (Ev.step (fun _ => millhandlaw24_TaskRuns.j0.eq_2 ..) (ev_neg (by simp) ?_))
        exact TaskRuns_l0 l (by omega) hk N nt nw l.length 0 0 tr s tr un tk rk (by omega) h3 (by omega) (by omega) (by omega)
      · rw [if_neg h3]
        exact ev_neg (by decide) hT

theorem node_open {w : World} {x : S24} {cs : Array Value} (h : k24.K w x cs.toList) : ∃ A c, cs = #[.slice A x.f0.length c, .int .i64 x.f1, .int .i64 x.f2] ∧ x.f0.length ≤ c ∧ Kd.C (Kd.int .i64) w A x.f0.length x.f0 := by
  obtain ⟨_, _, hcs, ⟨A, c, rfl, hle, hC⟩, ⟨_, _, rfl, rfl, rfl⟩⟩ := h
  refine ⟨A, c, ?_, hle, hC⟩
  cases cs
  simpa using hcs
theorem task_open {w : World} {x : S31} {cs : Array Value} (h : k31.K w x cs.toList) : cs = #[.int .u8 x.f0, .int .i64 x.f1, .int .i64 x.f2, .int .i64 x.f3, .int .i64 x.f4] := by
  obtain ⟨_, _, hcs, rfl, ⟨_, _, rfl, rfl, ⟨_, _, rfl, rfl, ⟨_, _, rfl, rfl, rfl⟩⟩⟩⟩ := h
  cases cs
  simpa using hcs
theorem TaskRuns_walk (w : World) (x0 : S24) (cs0 : Array Value) (r0 : k24.K w x0 cs0.toList) (g0_ : g24 x0) (x1 : S31) (cs1 : Array Value) (r1 : k31.K w x1 cs1.toList) (g1_ : g31 x1) (A2 : Option Addr) (c2 : Nat) (l2 : List S37) (r2 : Kd.C k37 w A2 l2.length l2) (q2 : l2.length ≤ c2) (g2_ : (l2.length * 24 ≤ 140737488351232 ∧ l2.length ≤ 9223372036854775807 ∧ ∀ y0 ∈ l2, g37 y0)) :
    Calls Try.prog 4 #[.agg cs0, .agg cs1, .slice A2 l2.length c2] w fun e w' => e = .returned (.bool true) ∧ Below w.heap.size w w' := by
  obtain ⟨A, c, rfl, hle, hC⟩ := node_open r0
  obtain rfl := task_open r1
  obtain ⟨k, h⟩ := (TaskRuns_ev l2 (fun x hx => (wfu8.mp (g2_.2.2 x hx).1).1) x0.f0 x0.f1 x0.f2 x1.f0 x1.f1 x1.f2 x1.f3 x1.f4).rounds
  exact millhandlaw24_TaskRuns.calls k A c x0.f0 x0.f1 x0.f2 x1.f0 x1.f1 x1.f2 x1.f3 x1.f4 A2 c2 l2 true w hC hle r2 q2 h rfl
end Go.Proofs.Ytbgfjhnbmfgccaa.R

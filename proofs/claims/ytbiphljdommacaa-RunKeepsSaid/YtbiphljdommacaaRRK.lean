/- Whatever is done to a run, it may stand so. -/
import Derived.Test.YtbiphljdommacaaRx34
import Derived.Test.YtbiphljdommacaaRx27
import Derived.Test.YtbiphljdommacaaRx35
import Derived.Test.YtbiphljdommacaaRx41
import Derived.Test.YtbiphljdommacaaRx39
import Derived.Test.YtbiphljdommacaaRx40
import Derived.Test.YtbiphljdommacaaRRE
namespace Go.Proofs.Ytbiphljdommacaa.R
open Go.RowKit Go.Proofs.YtbiphljdommacaaW.PrintWords Go.Proofs.YtbiphljdommacaaW.PrintLast Go.Proofs.YtbiphljdommacaaW.PrintMore Go.Proofs.Ytbiphljdommacaa.Plain Go.Proofs.Ytbiphljdommacaa.Opens
set_option linter.unusedVariables false
set_option linter.unusedSimpArgs false
/-! ### what may be done to a task, and how it stands behind it -/
theorem ok_mk {nt nw s tr un tk rk : Int} (h : nodeS nt nw = true) (hb : BoundP nt tr un tk rk) (hs : ShapeP nt s tr un tk rk) : okS nt nw s tr un tk rk = true := by
  unfold okS tmayS
  rw [h, Bool.true_and]
  exact decide_eq_true ⟨hb, hs⟩
theorem ok_node {nt nw s tr un tk rk : Int} (h : okS nt nw s tr un tk rk = true) : nodeS nt nw = true := by
  unfold okS at h
  rw [Bool.and_eq_true] at h
  exact h.1
theorem mom_iff {x : Int} : momS x = true ↔ 0 ≤ x ∧ x ≤ 1099511627776 := decide_eq_true_iff
/-- What comes of a task: it may stand so, tried no less. -/
def Moves (x : NodeT) (t : TaskT) (u : TT) : Prop := u.2.2.2.2.2 = 0 → (t.f0 = 1 ∨ t.f0 = 2 ∨ t.f0 = 3) ∧ taskOk x (mkT u) = true ∧ t.f1 ≤ u.2.1 ∧ (u.1 = 1 ∨ u.1 = 2 ∨ u.1 = 3 ∨ u.1 = 5)
theorem lease_moves (a b : Int) (x : NodeT) (t : TaskT) : Moves x t (fLease a b x t) := by
  intro he
  unfold fLease leaseS at he ⊢
  split at he
  · rename_i h
    rw [if_pos h]
    obtain ⟨hok, hfit, hs⟩ := in_ok h
    rw [Bool.and_eq_true, Bool.and_eq_true, decide_eq_true_eq, mom_iff, mom_iff] at hfit
    obtain ⟨hn, hb, hsh⟩ := ok_both hok
    unfold BoundP at hb
    unfold ShapeP at hsh
    have hw : wrap64 (t.f1 + 1) = t.f1 + 1 := w64 (by omega) (by omega)
    refine ⟨Or.inl hs, ok_mk (ok_node hok) ?_ ?_, ?_, Or.inr (Or.inl rfl)⟩
    · show BoundP x.f1 (wrap64 (t.f1 + 1)) b a 0
      rw [hw]; unfold BoundP; omega
    · show ShapeP x.f1 2 (wrap64 (t.f1 + 1)) b a 0
      rw [hw]; unfold ShapeP; omega
    · show t.f1 ≤ wrap64 (t.f1 + 1)
      omega
  · rename_i h
    exact absurd he h
set_option maxHeartbeats 4000000 in
theorem beat_moves (a b : Int) (x : NodeT) (t : TaskT) : Moves x t (fBeat a b x t) := by
  intro he
  unfold fBeat beatS at he ⊢
  split at he
  · rename_i h
    rw [if_pos h]
    obtain ⟨hok, hfit, hs, htk⟩ := held_ok h
    rw [mom_iff] at hfit
    obtain ⟨hn, hb, hsh⟩ := ok_both hok
    unfold BoundP at hb
    unfold ShapeP at hsh
    refine ⟨Or.inr (Or.inl hs), ok_mk (ok_node hok) ?_ ?_, Int.le_refl _, Or.inr (Or.inl hs)⟩
    · show BoundP x.f1 t.f1 b t.f3 t.f4
      unfold BoundP; omega
    · show ShapeP x.f1 t.f0 t.f1 b t.f3 t.f4
      unfold ShapeP
      rw [hs] at hsh ⊢
      exact Or.inr (Or.inr (Or.inl ⟨rfl, by omega, by omega, by omega⟩))
  · rename_i h
    exact absurd he h
set_option maxHeartbeats 2000000 in
theorem wake_moves (a b : Int) (x : NodeT) (t : TaskT) : Moves x t (fWake a b x t) := by
  intro he
  unfold fWake wakeS at he ⊢
  split at he
  · rename_i h
    split at he
    · rename_i h2
      rw [if_pos h, if_pos h2]
      unfold wakeE at h
      obtain ⟨hok, hfit, hs⟩ := in_ok h
      rw [Bool.and_eq_true, mom_iff, mom_iff] at hfit
      obtain ⟨hn, hb, hsh⟩ := ok_both hok
      unfold BoundP at hb
      unfold ShapeP at hsh
      refine ⟨Or.inr (Or.inr hs), ok_mk (ok_node hok) ?_ ?_, Int.le_refl _, Or.inl rfl⟩
      · show BoundP x.f1 t.f1 0 0 a
        unfold BoundP; omega
      · show ShapeP x.f1 1 t.f1 0 0 a
        unfold ShapeP; omega
    · cases he
  · rename_i h
    exact absurd he h
theorem fails_moves {b : Int} {x : NodeT} {t : TaskT} (hok : okS x.f1 x.f2 t.f0 t.f1 t.f2 t.f3 t.f4 = true) (hs : t.f0 = 2) (hb0 : 0 ≤ b ∧ b ≤ 1099511627776) :
    taskOk x (mkT (with0 (failsS x.f1 x.f2 t.f1 b))) = true ∧ t.f1 ≤ (with0 (failsS x.f1 x.f2 t.f1 b)).2.1 ∧ ((with0 (failsS x.f1 x.f2 t.f1 b)).1 = 1 ∨ (with0 (failsS x.f1 x.f2 t.f1 b)).1 = 2 ∨ (with0 (failsS x.f1 x.f2 t.f1 b)).1 = 3 ∨ (with0 (failsS x.f1 x.f2 t.f1 b)).1 = 5) := by
  obtain ⟨hn, hb, hsh⟩ := ok_both hok
  unfold BoundP at hb
  unfold ShapeP at hsh
  unfold failsS
  by_cases e : t.f1 = x.f1
  · rw [if_pos e]
    refine ⟨ok_mk (ok_node hok) ?_ ?_, Int.le_refl _, Or.inr (Or.inr (Or.inr rfl))⟩
    · show BoundP x.f1 t.f1 0 0 0
      unfold BoundP; omega
    · show ShapeP x.f1 5 t.f1 0 0 0
      unfold ShapeP; omega
  · rw [if_neg e]
    obtain ⟨p0, p1⟩ := pauseN_range (t.f1 - 1).toNat x.f2 (by omega) (by omega)
    have hw : wrap64 (b + pauseN (t.f1 - 1).toNat x.f2) = b + pauseN (t.f1 - 1).toNat x.f2 := w64 (by omega) (by omega)
    have hm : 0 ≤ mn (wrap64 (b + pauseN (t.f1 - 1).toNat x.f2)) 1099511627776 ∧ mn (wrap64 (b + pauseN (t.f1 - 1).toNat x.f2)) 1099511627776 ≤ 1099511627776 := by
      rw [hw]; unfold mn; split <;> omega
    refine ⟨ok_mk (ok_node hok) ?_ ?_, Int.le_refl _, Or.inr (Or.inr (Or.inl rfl))⟩
    · show BoundP x.f1 t.f1 (mn (wrap64 (b + pauseN (t.f1 - 1).toNat x.f2)) 1099511627776) 0 0
      unfold BoundP; omega
    · show ShapeP x.f1 3 t.f1 (mn (wrap64 (b + pauseN (t.f1 - 1).toNat x.f2)) 1099511627776) 0 0
      unfold ShapeP; omega
theorem fail_moves (a b : Int) (x : NodeT) (t : TaskT) : Moves x t (fFail a b x t) := by
  intro he
  unfold fFail failS at he ⊢
  split at he
  · rename_i h
    rw [if_pos h]
    obtain ⟨hok, hfit, hs, htk⟩ := held_ok h
    rw [mom_iff] at hfit
    exact ⟨Or.inr (Or.inl hs), fails_moves hok hs hfit⟩
  · rename_i h
    exact absurd he h
theorem lapse_moves (b : Int) (x : NodeT) (t : TaskT) : Moves x t (fLapse b x t) := by
  intro he
  unfold fLapse lapseS at he ⊢
  split at he
  · rename_i h
    split at he
    · rename_i h2
      rw [if_pos h, if_pos h2]
      obtain ⟨hok, hfit, hs⟩ := in_ok h
      rw [mom_iff] at hfit
      exact ⟨Or.inr (Or.inl hs), fails_moves hok hs hfit⟩
    · cases he
  · rename_i h
    exact absurd he h
theorem done_moves (a : Int) (x : NodeT) (t : TaskT) (he : (fDone a x t).2.2.2.2.2 = 0) : t.f0 = 2 ∧ fDone a x t = (4, t.f1, 0, 0, 0, 0) ∧ taskOk x ⟨4, t.f1, 0, 0, 0⟩ = true := by
  unfold fDone doneS at he ⊢
  split at he
  · rename_i h
    rw [if_pos h]
    obtain ⟨hok, hfit, hs, htk⟩ := held_ok h
    obtain ⟨hn, hb, hsh⟩ := ok_both hok
    unfold BoundP at hb
    unfold ShapeP at hsh
    refine ⟨hs, rfl, ok_mk (ok_node hok) ?_ ?_⟩
    · show BoundP x.f1 t.f1 0 0 0
      unfold BoundP; omega
    · show ShapeP x.f1 4 t.f1 0 0 0
      unfold ShapeP; omega
  · rename_i h
    exact absurd he h
/-! ### what is dropped -/
theorem drop_at {x : NodeT} {t : TaskT} (h : taskOk x t = true) : (4 ≤ t.f0 ∧ t.f0 ≤ 6 ∧ (dropAt x t).2.2.2.2.2 ≠ 0) ∨ ((t.f0 = 0 ∨ t.f0 = 1 ∨ t.f0 = 2 ∨ t.f0 = 3) ∧ (dropAt x t).2.2.2.2.2 = 0 ∧ mkT (dropAt x t) = ⟨6, t.f1, 0, 0, 0⟩ ∧ taskOk x ⟨6, t.f1, 0, 0, 0⟩ = true) := by
  unfold taskOk at h
  obtain ⟨hn, hb, hsh⟩ := ok_both h
  unfold BoundP at hb
  unfold ShapeP at hsh
  unfold dropAt dropS
  rw [if_pos h]
  by_cases e : 4 ≤ t.f0 ∧ t.f0 ≤ 6
  · rw [if_pos e]
    exact Or.inl ⟨e.1, e.2, by decide⟩
  · rw [if_neg e]
    refine Or.inr ⟨by omega, rfl, rfl, ok_mk (ok_node h) ?_ ?_⟩
    · show BoundP x.f1 t.f1 0 0 0
      unfold BoundP; omega
    · show ShapeP x.f1 6 t.f1 0 0 0
      unfold ShapeP; omega
theorem dropL_spec {ns : List NodeT} : ∀ (r : List NodeT) (i : Nat) (ts : List TaskT), r = ns.drop i → i + r.length = ns.length → ts.length = ns.length → (∀ (j : Nat) (hj : j < ns.length), taskOk ns[j] (tk ts j) = true) →
    (dropL i r ts).length = ns.length ∧ ∀ (j : Nat) (hj : j < ns.length), (j < i → tk (dropL i r ts) j = tk ts j) ∧ (i ≤ j → (4 ≤ (tk ts j).f0 ∧ (tk ts j).f0 ≤ 6 ∧ tk (dropL i r ts) j = tk ts j) ∨ ((tk ts j).f0 ≤ 3 ∧ tk (dropL i r ts) j = ⟨6, (tk ts j).f1, 0, 0, 0⟩ ∧ taskOk ns[j] ⟨6, (tk ts j).f1, 0, 0, 0⟩ = true))
  | [], i, ts, hr, hl, ht, ho => ⟨ht, fun j hj => ⟨fun _ => rfl, fun h => by simp at hl; omega⟩⟩
  | x :: r, i, ts, hr, hl, ht, ho => by
    have hi : i < ns.length := by simp at hl; omega
    rw [List.drop_eq_getElem_cons hi] at hr
    obtain ⟨rfl, rfl⟩ := List.cons.inj hr
    have hlen : (ns.drop (i + 1)).length = ns.length - (i + 1) := List.length_drop
    rw [dropL]
    rcases drop_at (ho i hi) with ⟨h4, h6, he⟩ | ⟨h3, he, hk, hok⟩
    · rw [if_neg he]
      obtain ⟨a1, a2⟩ := dropL_spec (ns.drop (i + 1)) (i + 1) ts rfl (by omega) ht ho
      refine ⟨a1, fun j hj => ⟨fun hji => (a2 j hj).1 (by omega), fun hij => ?_⟩⟩
      by_cases e : i = j
      · subst e
        exact Or.inl ⟨h4, h6, (a2 i hj).1 (by omega)⟩
      · exact (a2 j hj).2 (by omega)
    · rw [if_pos he, hk]
      have hset : ∀ j, j < ns.length → tk (ts.set i ⟨6, (tk ts i).f1, 0, 0, 0⟩) j = if i = j then ⟨6, (tk ts i).f1, 0, 0, 0⟩ else tk ts j := fun j hj => tk_set ts i j _ (by omega)
      obtain ⟨a1, a2⟩ := dropL_spec (ns.drop (i + 1)) (i + 1) (ts.set i ⟨6, (tk ts i).f1, 0, 0, 0⟩) rfl (by omega) (by rw [List.length_set]; exact ht) (fun j hj => by
        rw [hset j hj]
        by_cases e : i = j
        · subst e; rw [if_pos rfl]; exact hok
        · rw [if_neg e]; exact ho j hj)
      refine ⟨a1, fun j hj => ⟨fun hji => by rw [(a2 j hj).1 (by omega), hset j hj, if_neg (by omega)], fun hij => ?_⟩⟩
      by_cases e : i = j
      · subst e
        exact Or.inr ⟨by omega, by rw [(a2 i hj).1 (by omega), hset i hj, if_pos rfl], hok⟩
      · have := (a2 j hj).2 (by omega)
        rw [hset j hj, if_neg e] at this
        exact this
/-! ### how a run stands -/
theorem tasksOk_at (ts : List TaskT) (ns : List NodeT) : ∀ (r : List NodeT) (i : Nat), r = ns.drop i → i + r.length = ns.length → tasksOk ts i r = true → ∀ (j : Nat) (hj : j < ns.length), i ≤ j → taskOk ns[j] (tk ts j) = true
  | [], i, _, hl, _, j, hj, hij => by simp at hl; omega
  | x :: r, i, hr, hl, h, j, hj, hij => by
    have hi : i < ns.length := by simp at hl; omega
    rw [List.drop_eq_getElem_cons hi] at hr
    obtain ⟨rfl, rfl⟩ := List.cons.inj hr
    rw [tasksOk, Bool.and_eq_true] at h
    by_cases e : i = j
    · subst e; exact h.1
    · exact tasksOk_at ts ns _ (i + 1) rfl (by simp; omega) h.2 j hj (by omega)
theorem goesOk_at (ts : List TaskT) (ns : List NodeT) : ∀ (r : List NodeT) (i : Nat), r = ns.drop i → i + r.length = ns.length → goesOk ts i r = true → ∀ (j : Nat) (hj : j < ns.length), i ≤ j → ((tk ts j).f0 = 0 ↔ metS ts ns[j].f0 = false)
  | [], i, _, hl, _, j, hj, hij => by simp at hl; omega
  | x :: r, i, hr, hl, h, j, hj, hij => by
    have hi : i < ns.length := by simp at hl; omega
    rw [List.drop_eq_getElem_cons hi] at hr
    obtain ⟨rfl, rfl⟩ := List.cons.inj hr
    rw [goesOk, Bool.and_eq_true, stateN_tk] at h
    by_cases e : i = j
    · subst e
      have h1 := h.1
      cases hm : metS ts ns[i].f0 with
      | true =>
        rw [hm] at h1
        simp at h1
        simp [h1]
      | false =>
        rw [hm] at h1
        simp at h1
        simp [h1]
    · exact goesOk_at ts ns _ (i + 1) rfl (by simp; omega) h.2 j hj (by omega)
structure Goes (ns : List NodeT) (ts : List TaskT) : Prop where
  may : mayS ns = true
  len : ts.length = ns.length
  ok : ∀ (j : Nat) (hj : j < ns.length), taskOk ns[j] (tk ts j) = true
  met : ∀ (j : Nat) (hj : j < ns.length), (tk ts j).f0 = 0 ↔ metS ts ns[j].f0 = false
  no : ∀ j, j < ns.length → (tk ts j).f0 ≠ 5 ∧ (tk ts j).f0 ≠ 6
theorem goes_of {ns : List NodeT} {ts : List TaskT} (h : mayRun 1 keyA ns 1 ts = true) : Goes ns ts ∧ ∃ j, j < ns.length ∧ (tk ts j).f0 ≠ 4 := by
  obtain ⟨hm, hl, htk, hst, _⟩ := may_len h
  unfold standsS at hst
  rw [if_pos rfl, Bool.and_eq_true, Bool.and_eq_true] at hst
  obtain ⟨hg, ha, hs⟩ := hst
  refine ⟨⟨hm, hl, fun j hj => tasksOk_at ts ns ns 0 rfl (by omega) htk j hj (by omega), fun j hj => goesOk_at ts ns ns 0 rfl (by omega) hg j hj (by omega), fun j hj => ?_⟩, ?_⟩
  · have : someS ts [5, 6] = false := by simpa using hs
    unfold someS at this
    rw [List.any_eq_false] at this
    have := this _ (tk_mem (j := j) (by omega))
    simp at this
    exact this
  · have : allS ts [4] = false := by simpa using ha
    unfold allS at this
    rw [List.all_eq_false] at this
    obtain ⟨t, ht, hn⟩ := this
    obtain ⟨j, hj, rfl⟩ := mem_tk ht
    exact ⟨j, by omega, by simpa using hn⟩
theorem ok_states {x : NodeT} {t : TaskT} (h : taskOk x t = true) : 0 ≤ t.f0 ∧ t.f0 ≤ 6 := by
  obtain ⟨_, _, hs⟩ := ok_both h
  unfold ShapeP at hs
  omega
theorem has_open {ns : List NodeT} {ts : List TaskT} (hg : Goes ns ts) (hn : ∃ j, j < ns.length ∧ (tk ts j).f0 ≠ 4) : ∃ p, p < ns.length ∧ ((tk ts p).f0 = 1 ∨ (tk ts p).f0 = 2 ∨ (tk ts p).f0 = 3) := by
  have hm := hg.may
  have hrow : (rowN ns).length = ns.length := by
    unfold mayS at hm
    rw [Bool.and_eq_true, Bool.and_eq_true] at hm
    have h2 := hm.2.2
    rw [cyc_row ns hm.2.1, Bool.not_not] at h2
    exact of_decide_eq_true h2
  have hneeds := (may_needs hg.may).2.2
  have key : ∀ (m j : Nat), j < ns.length → placeOf j (rowN ns) ≤ m → (tk ts j).f0 ≠ 4 → ∃ p, p < ns.length ∧ ((tk ts p).f0 = 1 ∨ (tk ts p).f0 = 2 ∨ (tk ts p).f0 = 3) := by
    intro m
    induction m using Nat.strongRecOn with
    | ind m ih =>
      intro j hj hp hn
      have hs := ok_states (hg.ok j hj)
      have h56 := hg.no j hj
      by_cases h0 : (tk ts j).f0 = 0
      · have hb := (hg.met j hj).mp h0
        unfold metS at hb
        rw [List.all_eq_false] at hb
        obtain ⟨k, hk, hkn⟩ := hb
        obtain ⟨k0, k1⟩ := hneeds _ (List.getElem_mem hj) k hk
        obtain ⟨b, rfl⟩ : ∃ b : Nat, k = (b : Int) := ⟨k.toNat, by omega⟩
        have he : edge ns j b = true := (edge_iff ns j b).mpr (by rw [needs_at ns j hj]; exact hk)
        have hlt := row_rank hrow j b hj he
        refine ih (placeOf b (rowN ns)) (by omega) b (by omega) (Nat.le_refl _) ?_
        rw [stateN_tk] at hkn
        simpa using hkn
      · exact ⟨j, hj, by omega⟩
  obtain ⟨j, hj, hn⟩ := hn
  exact key _ j hj (Nat.le_refl _) hn
/-- How a run stands that came of what was done. -/
def First (ns : List NodeT) (ts : List TaskT) : Prop := ∀ (j : Nat) (hj : j < ns.length), (tk ts j).f0 ≠ 0 → (tk ts j).f0 ≠ 6 → metS ts ns[j].f0 = true
def InvK (ns : List NodeT) (st : Int) (ts : List TaskT) : Prop := mayRun 1 keyA ns st ts = true ∧ First ns ts
def After (ns : List NodeT) (ts : List TaskT) (st' : Int) (ts' : List TaskT) : Prop :=
  InvK ns st' ts' ∧ (st' = 1 → ∃ p, p < ns.length ∧ ((tk ts' p).f0 = 1 ∨ (tk ts' p).f0 = 2 ∨ (tk ts' p).f0 = 3)) ∧ ∀ j, j < ns.length → ((tk ts j).f0 = 4 → tk ts' j = tk ts j) ∧ (tk ts j).f1 ≤ (tk ts' j).f1
theorem may_st {ns : List NodeT} {ts : List TaskT} (st : Int) (hm : mayS ns = true) (hl : ts.length = ns.length) (h1 : ∀ (j : Nat) (hj : j < ns.length), taskOk ns[j] (tk ts j) = true) (hs : standsS ns st ts = true) : mayRun 1 keyA ns st ts = true := by
  unfold mayRun
  rw [hm, tasksOk_of ts ns h1 ns 0 rfl (by omega), hs, decide_eq_true hl]
  rfl
theorem all_of {ts : List TaskT} {l : List Int} (h : ∀ j, j < ts.length → (tk ts j).f0 ∈ l) : allS ts l = true := by
  unfold allS
  rw [List.all_eq_true]
  intro t ht
  obtain ⟨j, hj, rfl⟩ := mem_tk ht
  simpa using h j hj
theorem some_of {ts : List TaskT} {l : List Int} {j : Nat} (hj : j < ts.length) (h : (tk ts j).f0 ∈ l) : someS ts l = true := by
  unfold someS
  rw [List.any_eq_true]
  exact ⟨tk ts j, tk_mem hj, by simpa using h⟩
theorem with_after {ns : List NodeT} {ts : List TaskT} (hi : InvK ns 1 ts) {p : Nat} (hp : p < ns.length) {u : TaskT} (h123 : (tk ts p).f0 = 1 ∨ (tk ts p).f0 = 2 ∨ (tk ts p).f0 = 3) (hok : taskOk ns[p] u = true) (htr : (tk ts p).f1 ≤ u.f1) (hu : u.f0 = 1 ∨ u.f0 = 2 ∨ u.f0 = 3 ∨ u.f0 = 5) :
    ∃ st' ts', withS 1 keyA ns ts p u = (1, keyA, ns, st', ts', 0) ∧ After ns ts st' ts' := by
  obtain ⟨hmay, hfirst⟩ := hi
  obtain ⟨hg, hnd⟩ := goes_of hmay
  have hl := hg.len
  have hneeds := (may_needs hg.may).2.2
  have hset : ∀ j, j < ns.length → tk (ts.set p u) j = if p = j then u else tk ts j := fun j hj => tk_set ts p j u (by omega)
  have hlset : (ts.set p u).length = ns.length := by rw [List.length_set]; exact hl
  have hokset : ∀ (j : Nat) (hj : j < ns.length), taskOk ns[j] (tk (ts.set p u) j) = true := fun j hj => by
    rw [hset j hj]
    by_cases e : p = j
    · subst e; rw [if_pos rfl]; exact hok
    · rw [if_neg e]; exact hg.ok j hj
  have hsame : ∀ j, j < ns.length → ((tk (ts.set p u) j).f0 = 4 ↔ (tk ts j).f0 = 4) := fun j hj => by
    rw [hset j hj]
    by_cases e : p = j
    · subst e; rw [if_pos rfl]; omega
    · rw [if_neg e]
  have hmp : metS ts ns[p].f0 = true := hfirst p hp (by omega) (by omega)
  have hkeep : ∀ j, j < ns.length → ((tk ts j).f0 = 4 → tk (ts.set p u) j = tk ts j) ∧ (tk ts j).f1 ≤ (tk (ts.set p u) j).f1 := fun j hj => by
    rw [hset j hj]
    by_cases e : p = j
    · subst e; rw [if_pos rfl]; exact ⟨fun h => by omega, htr⟩
    · rw [if_neg e]; exact ⟨fun _ => rfl, Int.le_refl _⟩
  unfold withS
  by_cases h5 : u.f0 = 5
  · rw [if_pos h5]
    obtain ⟨a1, a2⟩ := dropL_spec ns 0 (ts.set p u) rfl (by omega) hlset hokset
    have hd4 : ∀ j, j < ns.length → ((tk (dropL 0 ns (ts.set p u)) j).f0 = 4 ↔ (tk (ts.set p u) j).f0 = 4) := fun j hj => by
      rcases (a2 j hj).2 (by omega) with ⟨_, _, e⟩ | ⟨h3, e, _⟩
      · rw [e]
      · rw [e]; constructor
        · intro h; cases h
        · intro h; omega
    refine ⟨3, _, rfl, ⟨may_st 3 hg.may a1 (fun j hj => ?_) ?_, fun j hj h0 h6 => ?_⟩, (fun h => by cases h), fun j hj => ?_⟩
    · rcases (a2 j hj).2 (by omega) with ⟨_, _, e⟩ | ⟨_, e, ok⟩
      · rw [e]; exact hokset j hj
      · rw [e]; exact ok
    · unfold standsS
      rw [if_neg (by decide), if_neg (by decide), if_pos rfl]
      have hp5 : tk (dropL 0 ns (ts.set p u)) p = u := by
        rcases (a2 p hp).2 (by omega) with ⟨_, _, e⟩ | ⟨h3, _, _⟩
        · rw [e, hset p hp, if_pos rfl]
        · rw [hset p hp, if_pos rfl] at h3; omega
      rw [some_of (j := p) (by omega) (by rw [hp5, h5]; simp), all_of (fun j hj => ?_)]
      · rfl
      · rcases (a2 j (by omega)).2 (by omega) with ⟨h4, h6, e⟩ | ⟨_, e, _⟩
        · rw [e]
          simp
          omega
        · rw [e]; simp
    · rw [metS_same (hneeds _ (List.getElem_mem hj)) hd4, metS_same (hneeds _ (List.getElem_mem hj)) hsame]
      rcases (a2 j hj).2 (by omega) with ⟨h4, h6', e⟩ | ⟨_, e, _⟩
      · rw [e, hset j hj] at h0 h6
        by_cases ep : p = j
        · subst ep; exact hmp
        · rw [if_neg ep] at h0 h6; exact hfirst j hj h0 h6
      · rw [e] at h6; exact absurd rfl h6
    · obtain ⟨k1, k2⟩ := hkeep j hj
      rcases (a2 j hj).2 (by omega) with ⟨_, _, e⟩ | ⟨h3, e, _⟩
      · rw [e]; exact ⟨k1, k2⟩
      · rw [e]
        refine ⟨fun h => ?_, k2⟩
        rw [k1 h] at h3; omega
  · rw [if_neg h5]
    have hna : ¬ allS (ts.set p u) [4] = true := fun h => by
      unfold allS at h
      rw [List.all_eq_true] at h
      have := h _ (tk_mem (j := p) (by omega))
      rw [hset p hp, if_pos rfl] at this
      simp at this
      omega
    have hmet : ∀ (j : Nat) (hj : j < ns.length), (tk (ts.set p u) j).f0 = 0 ↔ metS (ts.set p u) ns[j].f0 = false := fun j hj => by
      rw [metS_same (hneeds _ (List.getElem_mem hj)) hsame, hset j hj]
      by_cases e : p = j
      · subst e
        rw [if_pos rfl, hmp]
        constructor
        · intro h; omega
        · intro h; cases h
      · rw [if_neg e]; exact hg.met j hj
    have hno : ∀ j, j < ns.length → (tk (ts.set p u) j).f0 ≠ 5 ∧ (tk (ts.set p u) j).f0 ≠ 6 := fun j hj => by
      rw [hset j hj]
      by_cases e : p = j
      · rw [if_pos e]; omega
      · rw [if_neg e]; exact hg.no j hj
    have hnd' : ∃ j, j < ns.length ∧ (tk (ts.set p u) j).f0 ≠ 4 := ⟨p, hp, by rw [hset p hp, if_pos rfl]; omega⟩
    have hgo : Goes ns (ts.set p u) := ⟨hg.may, hlset, hokset, hmet, hno⟩
    refine ⟨1, ts.set p u, if_neg hna, ⟨may_mk hg.may hlset hokset hmet hnd' hno, fun j hj h0 _ => ?_⟩, fun _ => has_open hgo hnd', hkeep⟩
    cases h : metS (ts.set p u) ns[j].f0 with
    | true => rfl
    | false => exact absurd ((hmet j hj).mpr h) h0
theorem cancel_after {ns : List NodeT} {ts : List TaskT} (hi : InvK ns 1 ts) : After ns ts 4 (dropL 0 ns ts) := by
  obtain ⟨hmay, hfirst⟩ := hi
  obtain ⟨hg, j0, hj0, hn0⟩ := goes_of hmay
  have hneeds := (may_needs hg.may).2.2
  obtain ⟨a1, a2⟩ := dropL_spec ns 0 ts rfl (by omega) hg.len hg.ok
  have hd4 : ∀ j, j < ns.length → ((tk (dropL 0 ns ts) j).f0 = 4 ↔ (tk ts j).f0 = 4) := fun j hj => by
    rcases (a2 j hj).2 (by omega) with ⟨_, _, e⟩ | ⟨h3, e, _⟩
    · rw [e]
    · rw [e]; constructor
      · intro h; cases h
      · intro h; omega
  refine ⟨⟨may_st 4 hg.may a1 (fun j hj => ?_) ?_, fun j hj h0 h6 => ?_⟩, (fun h => by cases h), fun j hj => ?_⟩
  · rcases (a2 j hj).2 (by omega) with ⟨_, _, e⟩ | ⟨_, e, ok⟩
    · rw [e]; exact hg.ok j hj
    · rw [e]; exact ok
  · unfold standsS
    rw [if_neg (by decide), if_neg (by decide), if_neg (by decide), if_pos rfl]
    have hj6 : (tk (dropL 0 ns ts) j0).f0 = 6 := by
      have := hg.no j0 hj0
      rcases (a2 j0 hj0).2 (by omega) with ⟨_, _, e⟩ | ⟨_, e, _⟩
      · omega
      · rw [e]
    rw [some_of (j := j0) (by omega) (by rw [hj6]; simp), all_of (fun j hj => ?_)]
    · rfl
    · have := hg.no j (by omega)
      rcases (a2 j (by omega)).2 (by omega) with ⟨h4, h6, e⟩ | ⟨_, e, _⟩
      · rw [e]
        simp
        omega
      · rw [e]; simp
  · rw [metS_same (hneeds _ (List.getElem_mem hj)) hd4]
    rcases (a2 j hj).2 (by omega) with ⟨h4, h6', e⟩ | ⟨_, e, _⟩
    · rw [e] at h0 h6
      exact hfirst j hj h0 h6
    · rw [e] at h6; exact absurd rfl h6
  · rcases (a2 j hj).2 (by omega) with ⟨_, _, e⟩ | ⟨h3, e, _⟩
    · rw [e]; exact ⟨fun _ => rfl, Int.le_refl _⟩
    · rw [e]
      exact ⟨fun h => by omega, Int.le_refl _⟩
theorem zero_of {x : NodeT} {t : TaskT} (h : taskOk x t = true) (h0 : t.f0 = 0) : t = zT := by
  obtain ⟨_, _, hs⟩ := ok_both h
  unfold ShapeP at hs
  rw [h0] at hs
  obtain ⟨s, a, b, c, d⟩ := t
  simp at h0 hs
  obtain ⟨rfl, rfl, rfl, rfl⟩ := hs
  subst h0
  rfl
theorem complete_after {ns : List NodeT} {ts : List TaskT} (hi : InvK ns 1 ts) {p : Nat} (hp : p < ns.length) (h2 : (tk ts p).f0 = 2) (hok : taskOk ns[p] ⟨4, (tk ts p).f1, 0, 0, 0⟩ = true) {b : Int} (b0 : 0 ≤ b) (b1 : b ≤ 1099511627764) :
    ∃ st', withS 1 keyA ns ts p ⟨4, (tk ts p).f1, 0, 0, 0⟩ = (1, keyA, ns, st', ts.set p ⟨4, (tk ts p).f1, 0, 0, 0⟩, 0) ∧ After ns ts st' (openL 0 ns (ts.set p ⟨4, (tk ts p).f1, 0, 0, 0⟩) b).2 := by
  obtain ⟨hmay, hfirst⟩ := hi
  obtain ⟨hg, hnd⟩ := goes_of hmay
  have hl := hg.len
  obtain ⟨h12, hn1, hneeds⟩ := may_needs hg.may
  generalize hu : (⟨4, (tk ts p).f1, 0, 0, 0⟩ : TaskT) = u at *
  have hu0 : u.f0 = 4 := by rw [← hu]
  have hu1 : u.f1 = (tk ts p).f1 := by rw [← hu]
  have hset : ∀ j, j < ns.length → tk (ts.set p u) j = if p = j then u else tk ts j := fun j hj => tk_set ts p j u (by omega)
  have hlset : (ts.set p u).length = ns.length := by rw [List.length_set]; exact hl
  have hokset : ∀ (j : Nat) (hj : j < ns.length), taskOk ns[j] (tk (ts.set p u) j) = true := fun j hj => by
    rw [hset j hj]
    by_cases e : p = j
    · subst e; rw [if_pos rfl]; exact hok
    · rw [if_neg e]; exact hg.ok j hj
  have hup : ∀ l : List Int, (∀ k ∈ l, 0 ≤ k ∧ k < (ns.length : Int)) → metS ts l = true → metS (ts.set p u) l = true := fun l hr h => by
    unfold metS at h ⊢
    rw [List.all_eq_true] at h ⊢
    intro k hk
    obtain ⟨k0, k1⟩ := hr k hk
    obtain ⟨m, rfl⟩ : ∃ m : Nat, k = (m : Int) := ⟨k.toNat, by omega⟩
    have := h _ hk
    rw [stateN_tk] at this ⊢
    rw [hset m (by omega)]
    by_cases e : p = m
    · rw [if_pos e, hu0]; rfl
    · rw [if_neg e]; exact this
  obtain ⟨a1, _, a3⟩ := openL_spec hg.may ns 0 (ts.set p u) b rfl (by omega) hlset b0 (by omega) (fun j _ hj h => by
    rw [hset j hj] at h ⊢
    by_cases e : p = j
    · rw [if_pos e] at h; omega
    · rw [if_neg e] at h ⊢; exact zero_of (hg.ok j hj) h)
  have hd4 : ∀ j, j < ns.length → ((tk (openL 0 ns (ts.set p u) b).2 j).f0 = 4 ↔ (tk (ts.set p u) j).f0 = 4) := fun j hj => by
    rcases (a3 j hj).2 (Nat.zero_le _) with ⟨h0, _, q', _, _, e⟩ | ⟨_, e⟩
    · rw [e, h0]; simp [rT]
    · rw [e]
  have hokout : ∀ (j : Nat) (hj : j < ns.length), taskOk ns[j] (tk (openL 0 ns (ts.set p u) b).2 j) = true := fun j hj => by
    rcases (a3 j hj).2 (Nat.zero_le _) with ⟨_, _, q', q0, q1, e⟩ | ⟨_, e⟩
    · rw [e]; exact ok_ready (node_fit hg.may j hj) q0 q1
    · rw [e]; exact hokset j hj
  have hmetset : ∀ (j : Nat) (hj : j < ns.length), (tk (ts.set p u) j).f0 ≠ 0 → metS (ts.set p u) ns[j].f0 = true := fun j hj h => by
    refine hup _ (hneeds _ (List.getElem_mem hj)) ?_
    by_cases e : p = j
    · subst e; exact hfirst p hp (by omega) (by omega)
    · rw [hset j hj, if_neg e] at h
      exact hfirst j hj h (hg.no j hj).2
  have hmet : ∀ (j : Nat) (hj : j < ns.length), (tk (openL 0 ns (ts.set p u) b).2 j).f0 = 0 ↔ metS (openL 0 ns (ts.set p u) b).2 ns[j].f0 = false := fun j hj => by
    rw [metS_same (hneeds _ (List.getElem_mem hj)) hd4]
    rcases (a3 j hj).2 (Nat.zero_le _) with ⟨_, hm, q', _, _, e⟩ | ⟨hno, e⟩
    · rw [e, hm]; simp [rT]
    · rw [e]
      constructor
      · intro h0
        cases hmm : metS (ts.set p u) ns[j].f0 with
        | true => exact absurd ⟨h0, hmm⟩ hno
        | false => rfl
      · intro hmm
        apply Classical.byContradiction
        intro h0
        rw [hmetset j hj h0] at hmm
        cases hmm
  have hfirst' : First ns (openL 0 ns (ts.set p u) b).2 := fun j hj h0 _ => by
    cases h : metS (openL 0 ns (ts.set p u) b).2 ns[j].f0 with
    | true => rfl
    | false => exact absurd ((hmet j hj).mpr h) h0
  have hno : ∀ j, j < ns.length → (tk (openL 0 ns (ts.set p u) b).2 j).f0 ≠ 5 ∧ (tk (openL 0 ns (ts.set p u) b).2 j).f0 ≠ 6 := fun j hj => by
    rcases (a3 j hj).2 (Nat.zero_le _) with ⟨_, _, q', _, _, e⟩ | ⟨_, e⟩
    · rw [e]; exact ⟨(show (1 : Int) ≠ 5 by decide), (show (1 : Int) ≠ 6 by decide)⟩
    · rw [e, hset j hj]
      by_cases ep : p = j
      · rw [if_pos ep]; omega
      · rw [if_neg ep]; exact hg.no j hj
  have hkeep : ∀ j, j < ns.length → ((tk ts j).f0 = 4 → tk (openL 0 ns (ts.set p u) b).2 j = tk ts j) ∧ (tk ts j).f1 ≤ (tk (openL 0 ns (ts.set p u) b).2 j).f1 := fun j hj => by
    rcases (a3 j hj).2 (Nat.zero_le _) with ⟨h0, _, q', _, _, e⟩ | ⟨_, e⟩
    · rw [e]
      rw [hset j hj] at h0
      by_cases ep : p = j
      · rw [if_pos ep] at h0; omega
      · rw [if_neg ep] at h0
        rw [zero_of (hg.ok j hj) h0]
        exact ⟨(fun h => by cases h), Int.le_refl _⟩
    · rw [e, hset j hj]
      by_cases ep : p = j
      · subst ep; rw [if_pos rfl]; exact ⟨fun h => by omega, by omega⟩
      · rw [if_neg ep]; exact ⟨fun _ => rfl, Int.le_refl _⟩
  unfold withS
  rw [if_neg (by omega)]
  by_cases ha : allS (ts.set p u) [4] = true
  · refine ⟨2, if_pos ha, ⟨may_st 2 hg.may a1 hokout ?_, hfirst'⟩, (fun h => by cases h), hkeep⟩
    unfold standsS
    rw [if_neg (by decide), if_pos rfl]
    refine all_of fun j hj => ?_
    unfold allS at ha
    rw [List.all_eq_true] at ha
    have := ha _ (tk_mem (j := j) (by omega))
    simp at this
    rw [(hd4 j (by omega)).mpr this]
    simp
  · have hnd' : ∃ j, j < ns.length ∧ (tk (openL 0 ns (ts.set p u) b).2 j).f0 ≠ 4 := by
      apply Classical.byContradiction
      intro hn
      refine ha (all_of fun j hj => ?_)
      have : (tk (openL 0 ns (ts.set p u) b).2 j).f0 = 4 := Classical.byContradiction fun h => hn ⟨j, by omega, h⟩
      rw [(hd4 j (by omega)).mp this]
      simp
    exact ⟨1, if_neg ha, ⟨may_mk hg.may a1 hokout hmet hnd' hno, hfirst'⟩, fun _ => has_open ⟨hg.may, a1, hokout, hmet, hno⟩ hnd', hkeep⟩
/-! ### an act -/
section
variable {ns : List NodeT} {st : Int} {ts : List TaskT}
theorem turn_after (f : NodeT → TaskT → TT) (hM : ∀ x t, Moves x t (f x t)) (hi : InvK ns st ts) (i : Int) (fit : Bool) (h : (turnS f 1 keyA ns st ts i fit).2.2.2.2.2 = 0) :
    st = 1 ∧ ∃ st' ts', turnS f 1 keyA ns st ts i fit = (1, keyA, ns, st', ts', 0) ∧ After ns ts st' ts' := by
  obtain ⟨n, rfl, hn, hm, h1, hfit, he, e⟩ := turn_ok 1 keyA ns st ts i f fit h
  subst h1
  rw [getD_node ns n hn] at he e
  obtain ⟨h123, hok, htr, hu⟩ := hM _ _ he
  obtain ⟨st', ts', e2, ha⟩ := with_after hi hn h123 hok htr hu
  exact ⟨rfl, st', ts', e.trans e2, ha⟩
theorem complete_ok (hi : InvK ns st ts) (i a b : Int) (h : (completeS 1 keyA ns st ts i a b).2.2.2.2.2.2 = 0) :
    st = 1 ∧ ∃ st' ts' rank', completeS 1 keyA ns st ts i a b = (1, keyA, ns, st', ts', rank', 0) ∧ After ns ts st' ts' := by
  unfold completeS at h ⊢
  by_cases he : (turnS (fDone a) 1 keyA ns st ts i (decide (0 ≤ b ∧ b ≤ 1099511627764))).2.2.2.2.2 = 0
  rotate_left
  · rw [if_neg he] at h
    exact absurd h he
  rw [if_pos he]
  obtain ⟨n, rfl, hn, hm, h1, hfit, he2, e⟩ := turn_ok 1 keyA ns st ts i (fDone a) _ he
  subst h1
  rw [getD_node ns n hn] at he2 e
  obtain ⟨h2, hd, hok⟩ := done_moves a _ _ he2
  have hfit' := of_decide_eq_true hfit
  obtain ⟨st', e2, ha⟩ := complete_after hi hn h2 hok hfit'.1 hfit'.2
  have e3 : turnS (fDone a) 1 keyA ns 1 ts (n : Int) (decide (0 ≤ b ∧ b ≤ 1099511627764)) = (1, keyA, ns, st', ts.set n ⟨4, (tk ts n).f1, 0, 0, 0⟩, 0) := by
    rw [e, hd]
    exact e2
  rw [e3]
  exact ⟨rfl, st', _, _, rfl, ha⟩
theorem cancel_ok (hi : InvK ns st ts) (h : (cancelS 1 keyA ns st ts).2.2.2.2.2 = 0) : st = 1 ∧ ∃ st' ts', cancelS 1 keyA ns st ts = (1, keyA, ns, st', ts', 0) ∧ After ns ts st' ts' := by
  unfold cancelS at h ⊢
  rw [if_pos hi.1] at h ⊢
  by_cases h1 : st = 1
  rotate_left
  · rw [if_neg h1] at h
    cases h
  subst h1
  rw [if_pos rfl]
  exact ⟨rfl, 4, _, rfl, cancel_after hi⟩
abbrev StepA := Int × ByteArray × List NodeT × Int × List TaskT × Bool
theorem step_turn {g : Nat → Option RunA6} {t : RunA6} (hg : Ev g t) (ht : t.2.2.2.2.2 = 0 → st = 1 ∧ ∃ st' ts', t = (1, keyA, ns, st', ts', 0) ∧ After ns ts st' ts') :
    ∃ r : StepA, Ev (fun k => (g k).bind fun b => some (b.1, b.2.1, b.2.2.1, b.2.2.2.1, b.2.2.2.2.1, (b.2.2.2.2.2 == 0))) r ∧ (r.2.2.2.2.2 = true → st = 1 ∧ ∃ st' ts', r = (1, keyA, ns, st', ts', true) ∧ After ns ts st' ts') := by
  refine ⟨_, Ev.bind hg (Ev.now _), fun h => ?_⟩
  obtain ⟨h1, st', ts', e, ha⟩ := ht (by simpa using h)
  exact ⟨h1, st', ts', by rw [e]; rfl, ha⟩
theorem step_ev (hi : InvK ns st ts) (hf : fitS ns) (hx : ∀ x ∈ ns, x.f0.length ≤ 100000) (a0 a1 a2 a3 : Int) :
    ∃ r : StepA, Ev (fun k => millhandlaw25_step.f k 1 keyA ns st ts a0 a1 a2 a3) r ∧ (r.2.2.2.2.2 = true → st = 1 ∧ ∃ st' ts', r = (1, keyA, ns, st', ts', true) ∧ After ns ts st' ts') := by
  unfold millhandlaw25_step.f
  by_cases h0 : Int.tmod a0 7 = 0
  · obtain ⟨r, e, h⟩ := step_turn (Lease_ev 1 keyA ns st ts hf hx a1 a2 a3) (turn_after _ (lease_moves a2 a3) hi a1 true)
    exact ⟨r, ev_pos h0 e, h⟩
  by_cases h1 : Int.tmod a0 7 = 1
  · refine ⟨_, ev_neg h0 (ev_pos h1 (Ev.bind (Complete_ev 1 keyA ns st ts hf hx a1 a2 a3) (Ev.now _))), fun h => ?_⟩
    obtain ⟨e1, st', ts', rank', e, ha⟩ := complete_ok hi a1 a2 a3 (by simpa using h)
    exact ⟨e1, st', ts', by rw [e]; rfl, ha⟩
  by_cases h2 : Int.tmod a0 7 = 2
  · obtain ⟨r, e, h⟩ := step_turn (Fail_ev 1 keyA ns st ts hf hx a1 a2 a3) (turn_after _ (fail_moves a2 a3) hi a1 true)
    exact ⟨r, ev_neg h0 (ev_neg h1 (ev_pos h2 e)), h⟩
  by_cases h3 : Int.tmod a0 7 = 3
  · obtain ⟨r, e, h⟩ := step_turn (Beat_ev 1 keyA ns st ts hf hx a1 a2 a3) (turn_after _ (beat_moves a2 a3) hi a1 true)
    exact ⟨r, ev_neg h0 (ev_neg h1 (ev_neg h2 (ev_pos h3 e))), h⟩
  by_cases h4 : Int.tmod a0 7 = 4
  · obtain ⟨r, e, h⟩ := step_turn (Wake_ev 1 keyA ns st ts hf hx a1 a2 a3) (turn_after _ (wake_moves a2 a3) hi a1 true)
    exact ⟨r, ev_neg h0 (ev_neg h1 (ev_neg h2 (ev_neg h3 (ev_pos h4 e)))), h⟩
  by_cases h5 : Int.tmod a0 7 = 5
  · obtain ⟨r, e, h⟩ := step_turn (Lapse_ev 1 keyA ns st ts hf hx a1 a3) (turn_after _ (lapse_moves a3) hi a1 true)
    exact ⟨r, ev_neg h0 (ev_neg h1 (ev_neg h2 (ev_neg h3 (ev_neg h4 (ev_pos h5 e))))), h⟩
  obtain ⟨r, e, h⟩ := step_turn (Cancel_ev 1 keyA ns st ts hf hx) (cancel_ok hi)
  exact ⟨r, ev_neg h0 (ev_neg h1 (ev_neg h2 (ev_neg h3 (ev_neg h4 (ev_neg h5 e))))), h⟩
end
/-! ### what the statement asks -/
theorem eqi_l0 (a : List Int) (ha : a.length ≤ 100000) : ∀ (d i : Nat), i + d = a.length → Ev (fun k => slices_Equal_int_int.l0 k a a (a.length : Int) (i : Int)) true
  | 0, i, h => Ev.step (fun _ => slices_Equal_int_int.l0.eq_2 ..) (ev_neg (by omega) (Ev.now _))
  | d + 1, i, h => by
    refine Ev.step (fun _ => slices_Equal_int_int.l0.eq_2 ..) (ev_pos (by omega) (ev_pos (by omega) (ev_pos (by omega) (ev_pos (by omega) (ev_pos rfl ?_)))))
    rw [w64 (by omega) (by omega)]
    exact eqi_l0 a ha d (i + 1) (by omega)
theorem sameN_ev (x : NodeT) (hx : x.f0.length ≤ 100000) : Ev (fun k => dag_Same_1.f k x.f0 x.f1 x.f2 x.f0 x.f1 x.f2) true := by
  unfold dag_Same_1.f slices_Equal_int_int.f
  exact ev_pos rfl (ev_pos rfl (Ev.bind (ev_pos rfl (eqi_l0 x.f0 hx x.f0.length 0 (by omega))) (Ev.now _)))
theorem eqf_l0 (ns : List NodeT) (hn : ns.length ≤ 1000) (hx : ∀ x ∈ ns, x.f0.length ≤ 100000) : ∀ (d i : Nat), i + d = ns.length → Ev (fun k => slices_EqualFunc_api_Node.l0 k ns ns (ns.length : Int) (i : Int)) true
  | 0, i, h => Ev.step (fun _ => slices_EqualFunc_api_Node.l0.eq_2 ..) (ev_neg (by omega) (Ev.now _))
  | d + 1, i, h => by
    have hi : i < ns.length := by omega
    refine Ev.step (fun _ => slices_EqualFunc_api_Node.l0.eq_2 ..) (ev_pos (by omega) (ev_pos (by omega) (ev_pos (by omega) (ev_pos (by omega) ?_))))
    rw [rd_node ns i hi, w64 (by omega) (by omega)]
    exact Ev.bind (sameN_ev ns[i] (hx _ (List.getElem_mem hi))) (ev_pos rfl (eqf_l0 ns hn hx d (i + 1) (by omega)))
theorem dsame_ev (ns : List NodeT) (hn : ns.length ≤ 1000) (hx : ∀ x ∈ ns, x.f0.length ≤ 100000) : Ev (fun k => dag_Same.f k ns ns) true := by
  unfold dag_Same.f slices_EqualFunc_api_Node.f
  exact Ev.bind (ev_pos rfl (eqf_l0 ns hn hx ns.length 0 (by omega))) (Ev.now _)
section
variable {ns : List NodeT} {ts : List TaskT} (st : Int) (hl : ts.length = ns.length) (hn : ns.length ≤ 1000) (hx : ∀ x ∈ ns, x.f0.length ≤ 100000) (hr : ∀ x ∈ ns, ∀ k ∈ x.f0, 0 ≤ k ∧ k < (ns.length : Int))
include hl hn hx hr
theorem first_l1 (hfirst : First ns ts) (i : Nat) (hi : i < ns.length) (hnext : Ev (fun k => millhandlaw25_first.l0 k ((i : Int) + 1) 1 keyA ns st ts) true) : ∀ (d j : Nat), j + d = ns[i].f0.length →
    Ev (fun k => millhandlaw25_first.l1 k (i : Int) (tk ts i).f0 (j : Int) 1 keyA ns st ts) true
  | 0, j, h => by
    refine Ev.step (fun _ => millhandlaw25_first.l1.eq_2 ..) (ev_pos (by omega) (ev_pos (by omega) ?_))
    rw [rd_node ns i hi, w64 (show -9223372036854775808 ≤ (i : Int) + 1 by omega) (by omega)]
    exact ev_neg (by omega) hnext
  | d + 1, j, h => by
    have hj : j < ns[i].f0.length := by omega
    have hxi := hx _ (List.getElem_mem hi)
    have ih := first_l1 hfirst i hi hnext d (j + 1) (by omega)
    refine Ev.step (fun _ => millhandlaw25_first.l1.eq_2 ..) (ev_pos (by omega) (ev_pos (by omega) ?_))
    rw [rd_node ns i hi, w64 (show -9223372036854775808 ≤ (j : Int) + 1 by omega) (by omega)]
    refine ev_pos (by omega) ?_
    by_cases h0 : (tk ts i).f0 = 0
    · exact ev_pos h0 ih
    by_cases h6 : (tk ts i).f0 = 6
    · exact ev_neg h0 (ev_pos h6 ih)
    have hm := hfirst i hi h0 h6
    unfold metS at hm
    rw [List.all_eq_true] at hm
    have hk := hm _ (List.getElem_mem hj)
    obtain ⟨k0, k1⟩ := hr _ (List.getElem_mem hi) _ (List.getElem_mem hj)
    rw [rd_num _ j hj]
    exact ev_neg h0 (ev_neg h6 (ev_pos (by omega) (ev_pos k0 (ev_pos (by omega) (ev_pos (beq_iff_eq.mp hk) ih)))))
theorem first_l0 (hfirst : First ns ts) : ∀ (d i : Nat), i + d = ns.length → Ev (fun k => millhandlaw25_first.l0 k (i : Int) 1 keyA ns st ts) true
  | 0, i, h => Ev.step (fun _ => millhandlaw25_first.l0.eq_2 ..) (ev_neg (by omega) (Ev.now _))
  | d + 1, i, h => by
    have hi : i < ns.length := by omega
    have ih := first_l0 hfirst d (i + 1) (by omega)
    refine Ev.step (fun _ => millhandlaw25_first.l0.eq_2 ..) (ev_pos (by omega) (ev_pos (by omega) ?_))
    exact first_l1 st hl hn hx hr hfirst i hi (by rw [show ((i : Int) + 1) = ((i + 1 : Nat) : Int) by omega]; exact ih) ns[i].f0.length 0 (by omega)
omit hx hr in
theorem lopen_l0 {p : Nat} (hp : p < ns.length) (h : (tk ts p).f0 = 1 ∨ (tk ts p).f0 = 2 ∨ (tk ts p).f0 = 3) : ∀ (d i : Nat), i + d = p → Ev (fun k => millhandlaw25_open.l0 k (i : Int) 1 keyA ns st ts) true
  | d, i, hd => by
    refine Ev.step (fun _ => millhandlaw25_open.l0.eq_2 ..) (ev_pos (by omega) (ev_pos (by omega) ?_))
    show Ev (fun k => if (tk ts i).f0 = 1 then _ else _) _
    by_cases h1 : (tk ts i).f0 = 1
    · exact ev_pos h1 (Ev.now _)
    by_cases h2 : (tk ts i).f0 = 2
    · exact ev_neg h1 (ev_pos h2 (Ev.now _))
    by_cases h3 : (tk ts i).f0 = 3
    · exact ev_neg h1 (ev_neg h2 (ev_pos h3 (Ev.now _)))
    refine ev_neg h1 (ev_neg h2 (ev_neg h3 ?_))
    rw [w64 (by omega) (by omega)]
    cases d with
    | zero =>
      have : i = p := by omega
      subst this
      omega
    | succ d => exact lopen_l0 hp h d (i + 1) (by omega)
end
section
variable {ns : List NodeT} (hm : mayS ns = true) (acts : List S51)
include hm
theorem keeps_l1 (x9 st st' : Int) (ts ts' : List TaskT) (hl : ts.length = ns.length) (hl' : ts'.length = ns.length) (hk : ∀ j, j < ns.length → ((tk ts j).f0 = 4 → tk ts' j = tk ts j) ∧ (tk ts j).f1 ≤ (tk ts' j).f1)
    (hnext : Ev (fun k => millhandlaw25_RunKeeps.l0 k acts (wrap64 (x9 + 1)) 1 keyA ns st' ts') true) : ∀ (d j : Nat), j + d = ns.length →
    Ev (fun k => millhandlaw25_RunKeeps.l1 k acts x9 (j : Int) 1 keyA ns st ts 1 keyA ns st' ts') true
  | 0, j, h => Ev.step (fun _ => millhandlaw25_RunKeeps.l1.eq_2 ..) (ev_neg (by omega) hnext)
  | d + 1, j, h => by
    have hj : j < ns.length := by omega
    have h12 := (may_needs hm).1
    have ih := keeps_l1 x9 st st' ts ts' hl hl' hk hnext d (j + 1) (by omega)
    obtain ⟨h4, h1⟩ := hk j hj
    refine Ev.step (fun _ => millhandlaw25_RunKeeps.l1.eq_2 ..) (ev_pos (by omega) (ev_pos (by omega) (ev_pos (by omega) ?_)))
    rw [w64 (by omega) (by omega)]
    have hneg : ¬ (tk ts' j).f1 < (tk ts j).f1 := by omega
    by_cases h0 : (tk ts j).f0 = 4
    · refine ev_pos h0 (ev_neg ?_ (ev_neg hneg ih))
      have e := h4 h0
      show ¬ (!((tk ts' j).f0 == (tk ts j).f0) || (!((tk ts' j).f1 == (tk ts j).f1) || (!((tk ts' j).f2 == (tk ts j).f2) || (!((tk ts' j).f3 == (tk ts j).f3) || (!((tk ts' j).f4 == (tk ts j).f4)))))) = true
      rw [e]
      simp
    · exact ev_neg h0 (ev_neg hneg ih)
end
section
variable {ns : List NodeT} (hf : fitS ns) (hx : ∀ x ∈ ns, x.f0.length ≤ 100000) (hm : mayS ns = true) (acts : List S51) (hacts : acts.length ≤ 200)
include hf hx hm hacts
theorem keeps_l0 : ∀ (d c : Nat) (st : Int) (ts : List TaskT), c + d = acts.length → InvK ns st ts → Ev (fun k => millhandlaw25_RunKeeps.l0 k acts (c : Int) 1 keyA ns st ts) true
  | 0, c, st, ts, h, hi => Ev.step (fun _ => millhandlaw25_RunKeeps.l0.eq_2 ..) (ev_neg (by omega) (Ev.now _))
  | d + 1, c, st, ts, h, hi => by
    obtain ⟨h12, _, hr⟩ := may_needs hm
    have hl := (may_len hi.1).2.1
    obtain ⟨r, er, hok⟩ := step_ev hi hf hx (rd_T51 acts (c : Int)).f0 (rd_T51 acts (c : Int)).f1 (rd_T51 acts (c : Int)).f2 (rd_T51 acts (c : Int)).f3
    refine Ev.step (fun _ => millhandlaw25_RunKeeps.l0.eq_2 ..) (ev_pos (by omega) (ev_pos (by omega) (Ev.bind er ?_)))
    by_cases hb : r.2.2.2.2.2 = true
    rotate_left
    · refine ev_neg hb ?_
      rw [w64 (by omega) (by omega)]
      exact keeps_l0 d (c + 1) st ts (by omega) hi
    obtain ⟨h1, st', ts', rfl, hi', hopen, hk⟩ := hok hb
    subst h1
    have hl' := (may_len hi'.1).2.1
    have hc := rchk_ev 1 keyA ns st' ts' hf hx
    have hc0 : chkRun 1 keyA ns st' ts' = 0 := (chk_zero 1 keyA ns st' ts').mpr hi'.1
    rw [hc0] at hc
    have efirst : Ev (fun k => millhandlaw25_first.f k 1 keyA ns st' ts') true := by
      unfold millhandlaw25_first.f
      exact first_l0 st' hl' (by omega) hx hr hi'.2 ns.length 0 (by omega)
    have hrest : Ev (fun k => millhandlaw25_RunKeeps.j2 k acts (c : Int) false 1 keyA ns 1 ts 1 keyA ns st' ts') true := by
      refine Ev.step (fun _ => millhandlaw25_RunKeeps.j2.eq_2 ..) (ev_neg (by decide) ?_)
      refine keeps_l1 hm acts (c : Int) 1 st' ts ts' hl hl' hk ?_ ns.length 0 (by omega)
      rw [w64 (by omega) (by omega)]
      exact keeps_l0 d (c + 1) st' ts' (by omega) hi'
    have hs := dsame_ev ns (by omega) hx
    refine ev_pos rfl (Ev.bind hc (ev_pos rfl (Ev.bind efirst (ev_pos rfl (ev_pos rfl ?_)))))
    by_cases hst : st' = 1
    · obtain ⟨p, hp, hsp⟩ := hopen hst
      have eopen : Ev (fun k => millhandlaw25_open.f k 1 keyA ns st' ts') true := by
        unfold millhandlaw25_open.f
        exact lopen_l0 st' hl' (by omega) hp hsp p 0 (by omega)
      exact ev_pos hst (Ev.bind eopen (ev_pos rfl (ev_pos rfl (ev_pos rfl (Ev.bind hs hrest)))))
    · exact ev_neg hst (ev_pos rfl (ev_pos rfl (Ev.bind hs hrest)))
end
theorem start_inv {ns : List NodeT} (hm : mayS ns = true) : InvK ns 1 (startS ns).2 := by
  obtain ⟨hl, hform, hmet, _, hd⟩ := start_good hm
  have hst := fun j hj => form_state (hform j hj)
  have h1 := (may_needs hm).2.1
  refine ⟨may_mk hm hl (fun j hj => form_ok (node_fit hm j hj) (hform j hj)) hmet ⟨0, by omega, fun h => ?_⟩ (fun j hj => by rcases hst j hj with ⟨h, _⟩ | h | h <;> rw [h] <;> exact ⟨by decide, by decide⟩), fun j hj h0 _ => ?_⟩
  · unfold cntD at hd
    rw [List.countP_eq_zero] at hd
    have := hd _ (tk_mem (j := 0) (by omega))
    rw [h] at this
    exact this rfl
  · cases h : metS (startS ns).2 ns[j].f0 with
    | true => rfl
    | false => exact absurd ((hmet j hj).mpr h) h0
theorem RunKeeps_ev (ns : List NodeT) (acts : List S51) (hf : fitS ns) : Ev (fun k => millhandlaw25_RunKeeps.f k ns acts) true := by
  unfold millhandlaw25_RunKeeps.f
  have hj : ∀ id key ns' st ts, Ev (fun k => millhandlaw25_RunKeeps.j0 k acts true true id key ns' st ts) true := fun _ _ _ _ _ => Ev.step (fun _ => millhandlaw25_RunKeeps.j0.eq_2 ..) (ev_pos rfl (Ev.now _))
  refine Ev.bind endsAlive_ev (Ev.bind (Start_ev ns hf needs_short) ?_)
  by_cases hm : mayS ns = true
  rotate_left
  · rw [if_neg hm]
    exact ev_neg (by decide) (hj _ _ _ _ _)
  rw [if_pos hm]
  refine ev_pos rfl ?_
  by_cases h200 : (acts.length : Int) > 200
  · exact ev_pos h200 (hj _ _ _ _ _)
  refine ev_neg h200 (Ev.step (fun _ => millhandlaw25_RunKeeps.j0.eq_2 ..) (ev_neg (by decide) ?_))
  exact keeps_l0 hf (needs_short hm) hm acts (by omega) acts.length 0 1 (startS ns).2 (by omega) (start_inv hm)
theorem RunKeeps_walk (w : World) (x0 : S24) (cs0 : Array Value) (r0 : k24.K w x0 cs0.toList) (g0_ : g24 x0) (A1 : Option Addr) (c1 : Nat) (l1 : List S51) (r1 : Kd.C k51 w A1 l1.length l1) (q1 : l1.length ≤ c1) (g1_ : (l1.length * 32 ≤ 140737488351232 ∧ l1.length ≤ 9223372036854775807 ∧ ∀ y0 ∈ l1, g51 y0)) :
    Calls Try.prog 6 #[.agg cs0, .slice A1 l1.length c1] w fun e w' => e = .returned (.bool true) ∧ Below w.heap.size w w' := by
  obtain ⟨A, c, rfl, hle, hC⟩ := spec_opened r0
  have hf : fitS x0.f0 := ⟨by have := g0_.1; omega, fun x hx => by
    have := (g0_.2.2 x hx).1.1
    omega⟩
  obtain ⟨k, h⟩ := (RunKeeps_ev x0.f0 l1 hf).rounds
  exact millhandlaw25_RunKeeps.calls k A c x0.f0 A1 c1 l1 true w hC hle r1 q1 h rfl
end Go.Proofs.Ytbiphljdommacaa.R

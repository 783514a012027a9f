/- Whoever completes what is ready comes to the run's success. -/
import Derived.Test.YtbiphljdommacaaRx34
import Derived.Test.YtbiphljdommacaaRx27
import Derived.Test.YtbiphljdommacaaRx35
import Derived.Test.YtbiphljdommacaaRx42
import Derived.Test.YtbiphljdommacaaREv
import Derived.Test.YtbiphljdommacaaROp
namespace Go.Proofs.Ytbiphljdommacaa.R
open Go.RowKit Go.Proofs.YtbiphljdommacaaW.PrintWords Go.Proofs.YtbiphljdommacaaW.PrintLast Go.Proofs.YtbiphljdommacaaW.PrintMore Go.Proofs.Ytbiphljdommacaa.Plain Go.Proofs.Ytbiphljdommacaa.Opens
set_option linter.unusedVariables false
set_option linter.unusedSimpArgs false
/-! ### tasks that a run without faults has -/
def zT : TaskT := ⟨0, 0, 0, 0, 0⟩
def rT (q : Int) : TaskT := ⟨1, 0, 0, 0, q⟩
def dT : TaskT := ⟨4, 1, 0, 0, 0⟩
theorem node_fit {ns : List NodeT} (h : mayS ns = true) (i : Nat) (hi : i < ns.length) : nodeS ns[i].f1 ns[i].f2 = true := by
  unfold mayS at h
  rw [Bool.and_eq_true, Bool.and_eq_true] at h
  have := shapeFrom_at (ns.length : Int) ns 0 h.2.1 i hi
  unfold nodeOk at this
  rw [Bool.and_eq_true] at this
  exact this.1
theorem ok_zero {a b : Int} (h : nodeS a b = true) : okS a b 0 0 0 0 0 = true := by
  have hb := node_bounds h
  unfold okS tmayS
  rw [h, Bool.true_and, decide_eq_true_eq]
  unfold BoundP ShapeP
  omega
theorem ok_ready {a b q : Int} (h : nodeS a b = true) (h0 : 0 ≤ q) (h1 : q ≤ 1099511627776) : okS a b 1 0 0 0 q = true := by
  have hb := node_bounds h
  unfold okS tmayS
  rw [h, Bool.true_and, decide_eq_true_eq]
  unfold BoundP ShapeP
  omega
theorem ok_done {a b : Int} (h : nodeS a b = true) : okS a b 4 1 0 0 0 = true := by
  have hb := node_bounds h
  unfold okS tmayS
  rw [h, Bool.true_and, decide_eq_true_eq]
  unfold BoundP ShapeP
  omega
theorem ok_held {a b q : Int} (h : nodeS a b = true) (h0 : 1 ≤ q) (h1 : q ≤ 1099511627776) : okS a b 2 1 9 q 0 = true := by
  have hb := node_bounds h
  unfold okS tmayS
  rw [h, Bool.true_and, decide_eq_true_eq]
  unfold BoundP ShapeP
  omega
theorem mom_in {q : Int} (h0 : 0 ≤ q) (h1 : q ≤ 1099511627776) : momS q = true := decide_eq_true (by omega)
theorem open_zero {x : NodeT} {q : Int} (h : nodeS x.f1 x.f2 = true) (h0 : 0 ≤ q) (h1 : q ≤ 1099511627776) : mkT (openAt x zT q) = rT q := by
  unfold openAt openS inS
  rw [show okS x.f1 x.f2 zT.f0 zT.f1 zT.f2 zT.f3 zT.f4 = true from ok_zero h, if_pos rfl, mom_in h0 h1, if_pos rfl, if_pos (show zT.f0 = 0 from rfl), if_pos rfl]
  rfl
theorem lease_ready {x : NodeT} {q a : Int} (h : nodeS x.f1 x.f2 = true) (h0 : 0 ≤ q) (h1 : q ≤ 1099511627776) (a0 : 1 ≤ a) (a1 : a ≤ 1099511627776) : fLease a 9 x (rT q) = (2, 1, 9, a, 0, 0) := by
  have e : inS x.f1 x.f2 1 0 0 0 q true 1 = 0 := by
    unfold inS
    rw [ok_ready h h0 h1]; rfl
  unfold fLease leaseS
  simp only [rT, mom_in (show 0 ≤ a by omega) a1, mom_in (show (0 : Int) ≤ 9 by omega) (by omega), decide_eq_true (show 1 ≤ a from a0), Bool.and_self, Bool.and_true, Bool.true_and, e, if_true]
  rw [w64 (by omega) (by omega)]; rfl
theorem done_held {x : NodeT} {a : Int} (h : nodeS x.f1 x.f2 = true) (a0 : 1 ≤ a) (a1 : a ≤ 1099511627776) : fDone a x ⟨2, 1, 9, a, 0⟩ = (4, 1, 0, 0, 0, 0) := by
  have e0 : inS x.f1 x.f2 2 1 9 a 0 (decide (1 ≤ a) && momS a) 2 = 0 := by
    unfold inS
    rw [ok_held h a0 a1, decide_eq_true a0, mom_in (by omega) a1]; rfl
  have e : heldS x.f1 x.f2 2 1 9 a 0 true a = 0 := by
    unfold heldS
    rw [Bool.true_and, if_pos e0, if_pos rfl]
  unfold fDone doneS
  simp only [e, if_true]
/-! ### what is opened -/
theorem stateN_tk (ts : List TaskT) (n : Nat) : stateN ts (n : Int) = (tk ts n).f0 := rfl
theorem metS_same {ts ts' : List TaskT} {l : List Int} {n : Nat} (hr : ∀ k ∈ l, 0 ≤ k ∧ k < (n : Int)) (h : ∀ j, j < n → ((tk ts' j).f0 = 4 ↔ (tk ts j).f0 = 4)) : metS ts' l = metS ts l := by
  unfold metS
  rw [Bool.eq_iff_iff, List.all_eq_true, List.all_eq_true]
  refine forall_congr' fun k => forall_congr' fun hk => ?_
  obtain ⟨h0, h1⟩ := hr k hk
  obtain ⟨m, rfl⟩ : ∃ m : Nat, k = (m : Int) := ⟨k.toNat, by omega⟩
  rw [stateN_tk, stateN_tk, beq_iff_eq, beq_iff_eq]
  exact h m (by omega)
def cntN (ts : List TaskT) : Nat := ts.countP fun t => t.f0 != 0
theorem cntN_open (ts : List TaskT) (i : Nat) (q : Int) (hi : i < ts.length) (h0 : (tk ts i).f0 = 0) : cntN (ts.set i (rT q)) = cntN ts + 1 := by
  unfold cntN
  rw [List.countP_set hi]
  rw [tk_at ts i hi] at h0
  simp [h0, rT]
theorem openL_spec {ns : List NodeT} (hm : mayS ns = true) : ∀ (r : List NodeT) (i : Nat) (ts : List TaskT) (rank : Int), r = ns.drop i → i + r.length = ns.length → ts.length = ns.length → 0 ≤ rank → rank + r.length ≤ 1099511627776 →
    (∀ j, i ≤ j → j < ns.length → (tk ts j).f0 = 0 → tk ts j = zT) →
    (openL i r ts rank).2.length = ns.length ∧ (openL i r ts rank).1 + cntN ts = rank + cntN (openL i r ts rank).2 ∧ ∀ (j : Nat) (hj : j < ns.length), (j < i → tk (openL i r ts rank).2 j = tk ts j) ∧
      (i ≤ j → ((tk ts j).f0 = 0 ∧ metS ts ns[j].f0 = true ∧ ∃ q, 0 ≤ q ∧ q ≤ 1099511627776 ∧ tk (openL i r ts rank).2 j = rT q) ∨ (¬ ((tk ts j).f0 = 0 ∧ metS ts ns[j].f0 = true) ∧ tk (openL i r ts rank).2 j = tk ts j))
  | [], i, ts, rank, hr, hl, ht, h0, h1, hz => ⟨ht, rfl, fun j hj => ⟨fun _ => rfl, fun h => by simp at hl; omega⟩⟩
  | x :: r, i, ts, rank, hr, hl, ht, h0, h1, hz => by
    have hi : i < ns.length := by simp at hl; omega
    rw [List.drop_eq_getElem_cons hi] at hr
    obtain ⟨rfl, rfl⟩ : x = ns[i] ∧ r = ns.drop (i + 1) := List.cons.inj hr
    have hlen : (ns.drop (i + 1)).length = ns.length - (i + 1) := List.length_drop
    have h1' : rank + 1 + ((ns.drop (i + 1)).length : Int) ≤ 1099511627776 := by rw [List.length_cons] at h1; omega
    have hneeds := (may_needs hm).2.2
    by_cases hc : (tk ts i).f0 = 0 ∧ metS ts ns[i].f0 = true
    · rw [openL, if_pos hc]
      have hzi := hz i (Nat.le_refl _) hi hc.1
      rw [hzi, open_zero (node_fit hm i hi) h0 (by omega), w64 (by omega) (by omega)]
      have hset : ∀ j, j < ns.length → tk (ts.set i (rT rank)) j = if i = j then rT rank else tk ts j := fun j hj => tk_set ts i j _ (by omega)
      have hmet : ∀ l : List Int, (∀ k ∈ l, 0 ≤ k ∧ k < (ns.length : Int)) → metS (ts.set i (rT rank)) l = metS ts l := fun l hl => metS_same hl fun j hj => by
        rw [hset j hj]
        by_cases e : i = j
        · rw [if_pos e, ← e, hc.1]; simp [rT]
        · rw [if_neg e]
      obtain ⟨a1, a2, a3⟩ := openL_spec hm (ns.drop (i + 1)) (i + 1) (ts.set i (rT rank)) (rank + 1) rfl (by omega) (by rw [List.length_set]; exact ht) (by omega) h1' (fun j hj hjn h => by
        rw [hset j hjn, if_neg (by omega)] at h ⊢
        exact hz j (by omega) hjn h)
      refine ⟨a1, ?_, fun j hj => ⟨fun hji => ?_, fun hij => ?_⟩⟩
      · rw [cntN_open ts i rank (by omega) hc.1] at a2
        omega
      · rw [(a3 j hj).1 (by omega), hset j hj, if_neg (by omega)]
      · by_cases e : i = j
        · subst e
          exact Or.inl ⟨hc.1, hc.2, rank, h0, by omega, by rw [(a3 i hj).1 (by omega), hset i hj, if_pos rfl]⟩
        · have := (a3 j hj).2 (by omega)
          rw [hset j hj, if_neg e, hmet _ (hneeds _ (List.getElem_mem hj))] at this
          exact this
    · rw [openL, if_neg hc]
      obtain ⟨a1, a2, a3⟩ := openL_spec hm (ns.drop (i + 1)) (i + 1) ts rank rfl (by omega) ht h0 (by omega) (fun j hj hjn h => hz j (by omega) hjn h)
      refine ⟨a1, a2, fun j hj => ⟨fun hji => (a3 j hj).1 (by omega), fun hij => ?_⟩⟩
      by_cases e : i = j
      · subst e
        exact Or.inr ⟨hc, (a3 i hj).1 (by omega)⟩
      · exact (a3 j hj).2 (by omega)
/-! ### a run without faults -/
def cntD (ts : List TaskT) : Nat := ts.countP fun t => t.f0 == 4
def Good (ns : List NodeT) (ts : List TaskT) (rank : Int) (c : Nat) : Prop :=
  ts.length = ns.length ∧ (∀ j, j < ns.length → tk ts j = zT ∨ (∃ q, 0 ≤ q ∧ q ≤ 1099511627776 ∧ tk ts j = rT q) ∨ tk ts j = dT) ∧
  (∀ (j : Nat) (hj : j < ns.length), (tk ts j).f0 = 0 ↔ metS ts ns[j].f0 = false) ∧ rank = cntN ts ∧ cntD ts = c
theorem mem_tk {ts : List TaskT} {t : TaskT} (h : t ∈ ts) : ∃ j, j < ts.length ∧ t = tk ts j := by
  obtain ⟨j, hj, rfl⟩ := List.getElem_of_mem h
  exact ⟨j, hj, (tk_at ts j hj).symm⟩
theorem tk_mem {ts : List TaskT} {j : Nat} (h : j < ts.length) : tk ts j ∈ ts := by rw [tk_at ts j h]; exact List.getElem_mem h
theorem all4 (ts : List TaskT) : allS ts [4] = true ↔ cntD ts = ts.length := by
  unfold allS cntD
  rw [List.countP_eq_length, List.all_eq_true]
  simp
theorem tasksOk_of (ts : List TaskT) (ns : List NodeT) (h : ∀ (j : Nat) (hj : j < ns.length), taskOk ns[j] (tk ts j) = true) : ∀ (r : List NodeT) (i : Nat), r = ns.drop i → i + r.length = ns.length → tasksOk ts i r = true
  | [], _, _, _ => rfl
  | x :: r, i, hr, hl => by
    have hi : i < ns.length := by simp at hl; omega
    rw [List.drop_eq_getElem_cons hi] at hr
    obtain ⟨rfl, rfl⟩ := List.cons.inj hr
    rw [tasksOk, tasksOk_of ts ns h _ (i + 1) rfl (by simp; omega), Bool.and_true]
    exact h i hi
theorem goesOk_of (ts : List TaskT) (ns : List NodeT) (h : ∀ (j : Nat) (hj : j < ns.length), (tk ts j).f0 = 0 ↔ metS ts ns[j].f0 = false) : ∀ (r : List NodeT) (i : Nat), r = ns.drop i → i + r.length = ns.length → goesOk ts i r = true
  | [], _, _, _ => rfl
  | x :: r, i, hr, hl => by
    have hi : i < ns.length := by simp at hl; omega
    rw [List.drop_eq_getElem_cons hi] at hr
    obtain ⟨rfl, rfl⟩ := List.cons.inj hr
    rw [goesOk, goesOk_of ts ns h _ (i + 1) rfl (by simp; omega), Bool.and_true, stateN_tk]
    have := h i hi
    cases hm : metS ts ns[i].f0 with
    | true =>
      have : ¬ (tk ts i).f0 = 0 := fun e => by rw [this.mp e] at hm; cases hm
      simp [this]
    | false => simp [this.mpr hm]
theorem may_mk {ns : List NodeT} {ts : List TaskT} (hm : mayS ns = true) (hl : ts.length = ns.length) (h1 : ∀ (j : Nat) (hj : j < ns.length), taskOk ns[j] (tk ts j) = true) (h2 : ∀ (j : Nat) (hj : j < ns.length), (tk ts j).f0 = 0 ↔ metS ts ns[j].f0 = false)
    (h3 : ∃ j, j < ns.length ∧ (tk ts j).f0 ≠ 4) (h4 : ∀ j, j < ns.length → (tk ts j).f0 ≠ 5 ∧ (tk ts j).f0 ≠ 6) : mayRun 1 ⟨#[97]⟩ ns 1 ts = true := by
  have e1 : allS ts [4] = false := by
    obtain ⟨j, hj, hn⟩ := h3
    unfold allS
    rw [List.all_eq_false]
    exact ⟨tk ts j, tk_mem (by omega), by simp [hn]⟩
  have e2 : someS ts [5, 6] = false := by
    unfold someS
    rw [List.any_eq_false]
    intro t ht
    obtain ⟨j, hj, rfl⟩ := mem_tk ht
    have := h4 j (by omega)
    simp [this.1, this.2]
  unfold mayRun standsS
  rw [hm, tasksOk_of ts ns h1 ns 0 rfl (by omega), if_pos rfl, goesOk_of ts ns h2 ns 0 rfl (by omega), e1, e2, decide_eq_true hl]
  rfl
theorem has_ready {ns : List NodeT} {ts : List TaskT} {rank : Int} {c : Nat} (hm : mayS ns = true) (hg : Good ns ts rank c) (hc : c < ns.length) : ∃ p, p < ns.length ∧ (tk ts p).f0 = 1 := by
  obtain ⟨hl, hform, hmet, _, hd⟩ := hg
  have hrow : (rowN ns).length = ns.length := by
    have h := hm
    unfold mayS at h
    rw [Bool.and_eq_true, Bool.and_eq_true] at h
    have h2 := h.2.2
    rw [cyc_row ns h.2.1, Bool.not_not] at h2
    exact of_decide_eq_true h2
  have hneeds := (may_needs hm).2.2
  have key : ∀ (m j : Nat), j < ns.length → placeOf j (rowN ns) ≤ m → (tk ts j).f0 ≠ 4 → ∃ p, p < ns.length ∧ (tk ts p).f0 = 1 := by
    intro m
    induction m using Nat.strongRecOn with
    | ind m ih =>
      intro j hj hp hn
      rcases hform j hj with h | ⟨q, _, _, h⟩ | h
      · have h0 : (tk ts j).f0 = 0 := by rw [h]; rfl
        have hb := (hmet j hj).mp h0
        unfold metS at hb
        rw [List.all_eq_false] at hb
        obtain ⟨k, hk, hkn⟩ := hb
        obtain ⟨k0, k1⟩ := hneeds _ (List.getElem_mem hj) k hk
        obtain ⟨b, rfl⟩ : ∃ b : Nat, k = (b : Int) := ⟨k.toNat, by omega⟩
        have he : edge ns j b = true := (edge_iff ns j b).mpr (by rw [needs_at ns j hj]; exact hk)
        have hlt := row_rank hrow j b hj he
        refine ih (placeOf b (rowN ns)) (by omega) b (by omega) (Nat.le_refl _) ?_
        rw [stateN_tk] at hkn
        simpa using hkn
      · exact ⟨j, hj, by rw [h]; rfl⟩
      · rw [h] at hn; exact absurd rfl hn
  have : ∃ j, j < ns.length ∧ (tk ts j).f0 ≠ 4 := by
    apply Classical.byContradiction
    intro hno
    have : allS ts [4] = true := by
      unfold allS
      rw [List.all_eq_true]
      intro t ht
      obtain ⟨j, hj, rfl⟩ := mem_tk ht
      have : (tk ts j).f0 = 4 := Classical.byContradiction fun h => hno ⟨j, by omega, h⟩
      simp [this]
    rw [all4] at this
    omega
  obtain ⟨j, hj, hn⟩ := this
  exact key _ j hj (Nat.le_refl _) hn
theorem cnt_same {ts ts' : List TaskT} {n : Nat} (hl : ts.length = n) (hl' : ts'.length = n) (h : ∀ j, j < n → ((tk ts' j).f0 = 4 ↔ (tk ts j).f0 = 4)) : cntD ts' = cntD ts := by
  have e : ts'.map (fun t => t.f0 == 4) = ts.map (fun t => t.f0 == 4) := by
    apply List.ext_getElem
    · rw [List.length_map, List.length_map, hl, hl']
    · intro j h1 h2
      rw [List.getElem_map, List.getElem_map]
      have := h j (by rw [List.length_map] at h1; omega)
      rw [tk_at ts' j (by rw [List.length_map] at h1; omega), tk_at ts j (by rw [List.length_map] at h2; omega)] at this
      rw [Bool.eq_iff_iff, beq_iff_eq, beq_iff_eq]
      exact this
  unfold cntD
  have c (l : List TaskT) : l.countP (fun t => t.f0 == 4) = (l.map (fun t => t.f0 == 4)).countP id := by rw [List.countP_map]; rfl
  rw [c, c, e]
theorem form_ok {x : NodeT} {t : TaskT} (hx : nodeS x.f1 x.f2 = true) (h : t = zT ∨ (∃ q, 0 ≤ q ∧ q ≤ 1099511627776 ∧ t = rT q) ∨ t = dT) : taskOk x t = true := by
  rcases h with rfl | ⟨q, q0, q1, rfl⟩ | rfl
  · exact ok_zero hx
  · exact ok_ready hx q0 q1
  · exact ok_done hx
theorem form_state {t : TaskT} (h : t = zT ∨ (∃ q, 0 ≤ q ∧ q ≤ 1099511627776 ∧ t = rT q) ∨ t = dT) : (t.f0 = 0 ∧ t = zT) ∨ t.f0 = 1 ∨ t.f0 = 4 := by
  rcases h with rfl | ⟨q, _, _, rfl⟩ | rfl
  · exact Or.inl ⟨rfl, rfl⟩
  · exact Or.inr (Or.inl rfl)
  · exact Or.inr (Or.inr rfl)
abbrev keyA : ByteArray := ⟨#[97]⟩
theorem getD_node (ns : List NodeT) (p : Nat) (hp : p < ns.length) : ns.getD p ⟨[], 0, 0⟩ = ns[p] := by rw [List.getD_eq_getElem?_getD, List.getElem?_eq_getElem hp]; rfl
theorem turn_go {f : NodeT → TaskT → TT} {ns : List NodeT} {ts : List TaskT} {p : Nat} (hp : p < ns.length) (hl : ts.length = ns.length) (hmay : mayRun 1 keyA ns 1 ts = true) {fit : Bool} (hfit : fit = true) (he : (f ns[p] (tk ts p)).2.2.2.2.2 = 0) :
    turnS f 1 keyA ns 1 ts (p : Int) fit = withS 1 keyA ns ts p (mkT (f ns[p] (tk ts p))) := by
  unfold turnS
  rw [if_pos hmay, if_pos ⟨by omega, by omega⟩, if_pos rfl, if_pos hfit, Int.toNat_natCast, getD_node ns p hp, if_pos he]
theorem end_step {ns : List NodeT} {ts : List TaskT} {rank : Int} {c : Nat} (hm : mayS ns = true) (hg : Good ns ts rank c) (hc : c < ns.length) {p : Nat} (hp : p < ns.length) (h1 : (tk ts p).f0 = 1) {tok : Int} (t0 : 1 ≤ tok) (t1 : tok ≤ 1099511627776) :
    turnS (fLease tok 9) 1 keyA ns 1 ts (p : Int) true = (1, keyA, ns, 1, ts.set p ⟨2, 1, 9, tok, 0⟩, 0) ∧
    ∃ ts' rank', completeS 1 keyA ns 1 (ts.set p ⟨2, 1, 9, tok, 0⟩) (p : Int) tok rank = (1, keyA, ns, if c + 1 = ns.length then 2 else 1, ts', rank', 0) ∧ Good ns ts' rank' (c + 1) := by
  obtain ⟨hl, hform, hmet, hrank, hd⟩ := hg
  obtain ⟨h12, _, hneeds⟩ := may_needs hm
  have hnf := fun j (hj : j < ns.length) => node_fit hm j hj
  obtain ⟨q, q0, q1, hq⟩ : ∃ q, 0 ≤ q ∧ q ≤ 1099511627776 ∧ tk ts p = rT q := by
    rcases hform p hp with h | h | h
    · rw [h] at h1; cases h1
    · exact h
    · rw [h] at h1; cases h1
  have hmp : metS ts ns[p].f0 = true := by
    cases h : metS ts ns[p].f0 with
    | true => rfl
    | false => rw [(hmet p hp).mpr h] at h1; cases h1
  have hst := fun j hj => form_state (hform j hj)
  have hmay : mayRun 1 keyA ns 1 ts = true := may_mk hm hl (fun j hj => form_ok (hnf j hj) (hform j hj)) hmet ⟨p, hp, by rw [h1]; decide⟩ (fun j hj => by rcases hst j hj with ⟨h, _⟩ | h | h <;> rw [h] <;> exact ⟨by decide, by decide⟩)
  have hset (t : TaskT) (j : Nat) (hj : j < ns.length) : tk (ts.set p t) j = if p = j then t else tk ts j := tk_set ts p j t (by omega)
  have hlset (t : TaskT) : (ts.set p t).length = ns.length := by rw [List.length_set]; exact hl
  have hL := lease_ready (x := ns[p]) (hnf p hp) q0 q1 t0 t1
  have hD := done_held (x := ns[p]) (hnf p hp) t0 t1
  refine ⟨?_, ?_⟩
  · rw [turn_go hp hl hmay rfl (by rw [hq, hL]), hq, hL]
    unfold withS
    have : ¬ allS (ts.set p ⟨2, 1, 9, tok, 0⟩) [4] = true := fun h => by
      unfold allS at h
      rw [List.all_eq_true] at h
      have := h _ (tk_mem (j := p) (by rw [hlset]; exact hp))
      rw [hset _ p hp, if_pos rfl] at this
      simp at this
    rw [if_neg (show ¬ (mkT (2, 1, 9, tok, 0, 0)).f0 = 5 from (show ¬ (2 : Int) = 5 by decide))]
    exact if_neg this
  · have hset1 := hset ⟨2, 1, 9, tok, 0⟩
    have hmay1 : mayRun 1 keyA ns 1 (ts.set p ⟨2, 1, 9, tok, 0⟩) = true := by
      have hsame : ∀ j, j < ns.length → ((tk (ts.set p ⟨2, 1, 9, tok, 0⟩) j).f0 = 4 ↔ (tk ts j).f0 = 4) := fun j hj => by
        rw [hset1 j hj]
        by_cases e : p = j
        · rw [if_pos e, ← e, h1]; simp
        · rw [if_neg e]
      refine may_mk hm (hlset _) (fun j hj => ?_) (fun j hj => ?_) ⟨p, hp, by rw [hset1 p hp, if_pos rfl]; exact (show (2 : Int) ≠ 4 by decide)⟩ (fun j hj => ?_)
      · rw [hset1 j hj]
        by_cases e : p = j
        · subst e; rw [if_pos rfl]; exact ok_held (hnf p hp) t0 t1
        · rw [if_neg e]; exact form_ok (hnf j hj) (hform j hj)
      · rw [metS_same (hneeds _ (List.getElem_mem hj)) hsame, hset1 j hj]
        by_cases e : p = j
        · subst e; rw [if_pos rfl, hmp]; simp
        · rw [if_neg e]; exact hmet j hj
      · rw [hset1 j hj]
        by_cases e : p = j
        · rw [if_pos e]; exact ⟨(show (2 : Int) ≠ 5 by decide), (show (2 : Int) ≠ 6 by decide)⟩
        · rw [if_neg e]; rcases hst j hj with ⟨h, _⟩ | h | h <;> rw [h] <;> exact ⟨by decide, by decide⟩
    have hr0 : 0 ≤ rank ∧ rank ≤ 12 := by
      have : cntN ts ≤ ts.length := List.countP_le_length
      omega
    have hset2 := hset dT
    have hcN : cntN (ts.set p dT) = cntN ts := by
      unfold cntN
      rw [List.countP_set (by omega)]
      rw [tk_at ts p (by omega)] at h1
      have : 0 < ts.countP (fun t => t.f0 != 0) := List.countP_pos_iff.mpr ⟨ts[p]'(by omega), List.getElem_mem _, by simp [h1]⟩
      simp [h1, dT]
      omega
    have hcD : cntD (ts.set p dT) = c + 1 := by
      unfold cntD at hd ⊢
      rw [List.countP_set (by omega)]
      rw [tk_at ts p (by omega)] at h1
      simp [h1, dT]
      omega
    have hturn : turnS (fDone tok) 1 keyA ns 1 (ts.set p ⟨2, 1, 9, tok, 0⟩) (p : Int) (decide (0 ≤ rank ∧ rank ≤ 1099511627764)) = (1, keyA, ns, if c + 1 = ns.length then 2 else 1, ts.set p dT, 0) := by
      have htk : tk (ts.set p ⟨2, 1, 9, tok, 0⟩) p = ⟨2, 1, 9, tok, 0⟩ := by rw [hset1 p hp, if_pos rfl]
      rw [turn_go hp (hlset _) hmay1 (decide_eq_true (by omega)) (by rw [htk, hD]), htk, hD]
      unfold withS
      rw [if_neg (show ¬ (mkT (4, 1, 0, 0, 0, 0)).f0 = 5 by decide), List.set_set]
      have h4 := all4 (ts.set p dT)
      rw [hcD, hlset] at h4
      by_cases e : c + 1 = ns.length
      · rw [if_pos e]; exact if_pos (h4.mpr e)
      · rw [if_neg e]; exact if_neg (fun h => e (h4.mp h))
    obtain ⟨a1, a2, a3⟩ := openL_spec hm ns 0 (ts.set p dT) rank rfl (by omega) (hlset _) hr0.1 (by omega) (fun j _ hj h => by
      rw [hset2 j hj] at h ⊢
      by_cases e : p = j
      · rw [if_pos e] at h; cases h
      · rw [if_neg e] at h ⊢
        rcases hst j hj with ⟨_, h'⟩ | h' | h'
        · exact h'
        · rw [h'] at h; cases h
        · rw [h'] at h; cases h)
    refine ⟨(openL 0 ns (ts.set p dT) rank).2, (openL 0 ns (ts.set p dT) rank).1, ?_, a1, fun j hj => ?_, fun j hj => ?_, ?_, ?_⟩
    · unfold completeS
      rw [hturn]
      exact if_pos rfl
    · rcases (a3 j hj).2 (Nat.zero_le _) with ⟨_, _, q', b0, b1, b2⟩ | ⟨_, b⟩
      · exact Or.inr (Or.inl ⟨q', b0, b1, b2⟩)
      · rw [b, hset2 j hj]
        by_cases e : p = j
        · rw [if_pos e]; exact Or.inr (Or.inr rfl)
        · rw [if_neg e]; exact hform j hj
    · have hsame : ∀ j, j < ns.length → ((tk (openL 0 ns (ts.set p dT) rank).2 j).f0 = 4 ↔ (tk (ts.set p dT) j).f0 = 4) := fun j hj => by
        rcases (a3 j hj).2 (Nat.zero_le _) with ⟨b, _, q', _, _, b2⟩ | ⟨_, b⟩
        · rw [b2, b]; simp [rT]
        · rw [b]
      rw [metS_same (hneeds _ (List.getElem_mem hj)) hsame]
      rcases (a3 j hj).2 (Nat.zero_le _) with ⟨b, b', q', _, _, b2⟩ | ⟨b, b'⟩
      · rw [b2, b']; simp [rT]
      · rw [b']
        constructor
        · intro h0
          cases hmm : metS (ts.set p dT) ns[j].f0 with
          | true => exact absurd ⟨h0, hmm⟩ b
          | false => rfl
        · intro hmm
          apply Classical.byContradiction
          intro hn
          have hold : metS ts ns[j].f0 = true := by
            by_cases e : p = j
            · subst e; exact hmp
            · rw [hset2 j hj, if_neg e] at hn
              cases h : metS ts ns[j].f0 with
              | true => rfl
              | false => exact absurd ((hmet j hj).mpr h) hn
          have hup : metS (ts.set p dT) ns[j].f0 = true := by
            unfold metS at hold ⊢
            rw [List.all_eq_true] at hold ⊢
            intro k hk
            obtain ⟨k0, k1⟩ := hneeds _ (List.getElem_mem hj) k hk
            obtain ⟨b, rfl⟩ : ∃ b : Nat, k = (b : Int) := ⟨k.toNat, by omega⟩
            have := hold _ hk
            rw [stateN_tk] at this ⊢
            rw [hset2 b (by omega)]
            by_cases e : p = b
            · rw [if_pos e]; rfl
            · rw [if_neg e]; exact this
          rw [hup] at hmm; cases hmm
    · rw [hcN] at a2; omega
    · rw [← hcD]
      refine cnt_same (hlset _) a1 fun j hj => ?_
      rcases (a3 j hj).2 (Nat.zero_le _) with ⟨b, _, q', _, _, b2⟩ | ⟨_, b⟩
      · rw [b2, b]; simp [rT]
      · rw [b]
/-! ### the law -/
def rdyL (ts : List TaskT) : Nat → Nat → List Int
  | _, 0 => []
  | i, d + 1 => if (tk ts i).f0 = 1 then (i : Int) :: rdyL ts (i + 1) d else rdyL ts (i + 1) d
theorem rdy_mem (ts : List TaskT) : ∀ (d i : Nat), ∀ x ∈ rdyL ts i d, ∃ p : Nat, x = (p : Int) ∧ p < i + d ∧ (tk ts p).f0 = 1
  | 0, _, _, h => by cases h
  | d + 1, i, x, h => by
    rw [rdyL] at h
    split at h
    · rename_i h1
      rcases List.mem_cons.1 h with rfl | h
      · exact ⟨i, rfl, by omega, h1⟩
      · obtain ⟨p, e, hp, hs⟩ := rdy_mem ts d (i + 1) x h
        exact ⟨p, e, by omega, hs⟩
    · obtain ⟨p, e, hp, hs⟩ := rdy_mem ts d (i + 1) x h
      exact ⟨p, e, by omega, hs⟩
theorem rdy_has (ts : List TaskT) : ∀ (d i p : Nat), i ≤ p → p < i + d → (tk ts p).f0 = 1 → (p : Int) ∈ rdyL ts i d
  | 0, i, p, h1, h2, _ => by omega
  | d + 1, i, p, h1, h2, h => by
    rw [rdyL]
    by_cases e : i = p
    · subst e
      rw [if_pos h]
      exact List.mem_cons_self
    · have := rdy_has ts d (i + 1) p (by omega) (by omega) h
      split
      · exact List.mem_cons_of_mem _ this
      · exact this
theorem rdy_len (ts : List TaskT) : ∀ (d i : Nat), (rdyL ts i d).length ≤ d
  | 0, _ => Nat.le_refl _
  | d + 1, i => by
    have := rdy_len ts d (i + 1)
    rw [rdyL]
    split
    · rw [List.length_cons]; omega
    · omega
section
variable (x1 : List Int) (ns : List NodeT)
theorem ends_l1 (rank x9 : Int) (ts : List TaskT) (st : Int) (ht : ts.length ≤ 1099511627776) (hs : st = 1) : ∀ (d i : Nat) (acc : List Int), i + d = ts.length → acc.length + d ≤ 10000 → acc ++ rdyL ts i d ≠ [] →
    Ev (fun k => millhandlaw25_RunEnds.j3 k x1 rank x9 (acc ++ rdyL ts i d) false ns 1 keyA ns st ts) true → Ev (fun k => millhandlaw25_RunEnds.l1 k x1 rank x9 acc (i : Int) ns 1 keyA ns st ts) true
  | 0, i, acc, h, ha, hne, hr => by
    rw [rdyL, List.append_nil] at hr hne
    refine Ev.step (fun _ => millhandlaw25_RunEnds.l1.eq_2 ..) (ev_neg (by omega) (ev_neg (fun z => hne (List.eq_nil_of_length_eq_zero (by omega))) ?_))
    rw [show (st != 1) = false by simp [hs]]
    exact hr
  | d + 1, i, acc, h, ha, hne, hr => by
    have hi : i < ts.length := by omega
    rw [rdyL] at hr hne
    refine Ev.step (fun _ => millhandlaw25_RunEnds.l1.eq_2 ..) (ev_pos (by omega) (ev_pos (by omega) ?_))
    show Ev (fun k => if (tk ts i).f0 = 1 then _ else _) _
    rw [w64 (show -9223372036854775808 ≤ (i : Int) + 1 by omega) (by omega)]
    by_cases h1 : (tk ts i).f0 = 1
    · rw [if_pos h1, ← List.singleton_append, ← List.append_assoc] at hr hne
      exact ev_pos h1 (ev_pos (by omega) (ends_l1 rank x9 ts st ht hs d (i + 1) _ (by omega) (by rw [List.length_append, List.length_singleton]; omega) hne hr))
    · rw [if_neg h1] at hr hne
      exact ev_neg h1 (ends_l1 rank x9 ts st ht hs d (i + 1) acc (by omega) (by omega) hne hr)
variable (hf : fitS ns) (hx : ∀ x ∈ ns, x.f0.length ≤ 100000) (hm : mayS ns = true) (hb : ∀ y ∈ x1, 0 ≤ y ∧ y ≤ 255) (hx1 : x1.length ≤ 9223372036854775807)
include hf hx hm hb hx1
theorem ends_l0 : ∀ (d c : Nat) (ts : List TaskT) (rank : Int), c + d = ns.length → Good ns ts rank c → Ev (fun k => millhandlaw25_RunEnds.l0 k x1 rank (c : Int) ns 1 keyA ns (if c = ns.length then 2 else 1) ts) true
  | 0, c, ts, rank, h, hg => by
    have hc : c = ns.length := by omega
    rw [if_pos hc]
    refine Ev.step (fun _ => millhandlaw25_RunEnds.l0.eq_2 ..) (ev_neg (by omega) (ev_pos rfl (ev_some ?_)))
    obtain ⟨hl, _, _, hr, hd⟩ := hg
    have ha : ∀ t ∈ ts, (t.f0 == 4) = true := List.countP_eq_length.mp (by unfold cntD at hd; omega)
    have hn : cntN ts = ts.length := by
      unfold cntN
      rw [List.countP_eq_length]
      intro t ht
      have := beq_iff_eq.mp (ha t ht)
      simp [this]
    rw [beq_iff_eq]
    omega
  | d + 1, c, ts, rank, h, hg => by
    have hc : c < ns.length := by omega
    have h12 := (may_needs hm).1
    have hl := hg.1
    rw [if_neg (by omega)]
    refine Ev.step (fun _ => millhandlaw25_RunEnds.l0.eq_2 ..) (ev_pos (by omega) ?_)
    obtain ⟨p0, hp0, hs0⟩ := has_ready hm hg hc
    have hin := rdy_has ts ts.length 0 p0 (by omega) (by omega) hs0
    have hrl := rdy_len ts ts.length 0
    have hne : rdyL ts 0 ts.length ≠ [] := fun e => by rw [e] at hin; cases hin
    have hpos : 0 < (rdyL ts 0 ts.length).length := List.length_pos_iff.mpr hne
    have fin : ∀ at_ : Int, 0 ≤ at_ → at_ < ((rdyL ts 0 ts.length).length : Int) → Ev (fun k => millhandlaw25_RunEnds.j4 k x1 rank (c : Int) (rdyL ts 0 ts.length) at_ ns 1 keyA ns 1 ts) true := by
      intro at_ h0 h1
      obtain ⟨a, rfl⟩ : ∃ a : Nat, at_ = (a : Int) := ⟨at_.toNat, by omega⟩
      have ha : a < (rdyL ts 0 ts.length).length := by omega
      obtain ⟨p, e, hp, hs⟩ := rdy_mem ts ts.length 0 _ (List.getElem_mem ha)
      refine Ev.step (fun _ => millhandlaw25_RunEnds.j4.eq_2 ..) (ev_pos h0 (ev_pos h1 ?_))
      rw [rd_num _ a ha, e, w64 (by omega) (by omega)]
      obtain ⟨s1, ts', rank', s2, hg'⟩ := end_step hm hg hc (show p < ns.length by omega) hs (show (1 : Int) ≤ (c : Int) + 1 by omega) (by omega)
      have e1 := Lease_ev 1 keyA ns 1 ts hf hx (p : Int) ((c : Int) + 1) 9
      rw [s1] at e1
      have e2 := Complete_ev 1 keyA ns 1 (ts.set p ⟨2, 1, 9, (c : Int) + 1, 0⟩) hf hx (p : Int) ((c : Int) + 1) rank
      rw [s2] at e2
      refine Ev.bind e1 (Ev.bind e2 (ev_pos rfl (ev_pos rfl ?_)))
      exact ends_l0 d (c + 1) ts' rank' (by omega) hg'
    refine ends_l1 x1 ns rank (c : Int) ts 1 (by omega) rfl ts.length 0 [] (by omega) (by simp; omega) hne ?_
    rw [List.nil_append]
    refine Ev.step (fun _ => millhandlaw25_RunEnds.j3.eq_2 ..) (ev_neg (by decide) ?_)
    by_cases hx0 : (x1.length : Int) > 0
    · have t0 : 0 ≤ Int.tmod (c : Int) (x1.length : Int) := Int.tmod_nonneg _ (by omega)
      have t1 : Int.tmod (c : Int) (x1.length : Int) < (x1.length : Int) := Int.tmod_lt_of_pos _ hx0
      obtain ⟨m, hmm⟩ : ∃ m : Nat, Int.tmod (c : Int) (x1.length : Int) = (m : Int) := ⟨(Int.tmod (c : Int) (x1.length : Int)).toNat, by omega⟩
      have hml : m < x1.length := by omega
      have hv := hb _ (List.getElem_mem hml)
      refine ev_pos hx0 (ev_neg (by omega) (ev_pos t0 (ev_pos t1 (ev_neg (by omega) ?_))))
      rw [hmm, rd_num x1 m hml, w64 (by omega) (by omega)]
      exact fin _ (Int.tmod_nonneg _ hv.1) (Int.tmod_lt_of_pos _ (by omega))
    · exact ev_neg hx0 (fin 0 (by omega) (by omega))
end
theorem start_good {ns : List NodeT} (hm : mayS ns = true) : Good ns (startS ns).2 (startS ns).1 0 := by
  obtain ⟨h12, _, hneeds⟩ := may_needs hm
  have hz : ∀ j, j < ns.length → tk (List.replicate ns.length z35) j = zT := fun j hj => by
    rw [tk_at _ j (by rw [List.length_replicate]; exact hj), List.getElem_replicate]; rfl
  obtain ⟨a1, a2, a3⟩ := openL_spec hm ns 0 (List.replicate ns.length z35) 0 rfl (by omega) List.length_replicate (Int.le_refl 0) (by omega) (fun j _ hj _ => hz j hj)
  have hsame : ∀ j, j < ns.length → ((tk (openL 0 ns (List.replicate ns.length z35) 0).2 j).f0 = 4 ↔ (tk (List.replicate ns.length z35) j).f0 = 4) := fun j hj => by
    rcases (a3 j hj).2 (Nat.zero_le _) with ⟨b, _, q', _, _, b2⟩ | ⟨_, b⟩
    · rw [b2, b]; simp [rT]
    · rw [b]
  refine ⟨a1, fun j hj => ?_, fun j hj => ?_, ?_, ?_⟩
  · rcases (a3 j hj).2 (Nat.zero_le _) with ⟨_, _, q', b0, b1, b2⟩ | ⟨_, b⟩
    · exact Or.inr (Or.inl ⟨q', b0, b1, b2⟩)
    · rw [show tk (startS ns).2 j = _ from b, hz j hj]; exact Or.inl rfl
  · show (tk (openL 0 ns _ 0).2 j).f0 = 0 ↔ metS (openL 0 ns _ 0).2 ns[j].f0 = false
    rw [metS_same (hneeds _ (List.getElem_mem hj)) hsame]
    rcases (a3 j hj).2 (Nat.zero_le _) with ⟨b, b', q', _, _, b2⟩ | ⟨b, b'⟩
    · rw [b2, b']; simp [rT]
    · rw [b', hz j hj] at *
      cases hmm : metS (List.replicate ns.length z35) ns[j].f0 with
      | true => exact absurd ⟨rfl, hmm⟩ b
      | false => simp [zT]
  · have h0 : cntN (List.replicate ns.length z35) = 0 := by
      unfold cntN
      rw [List.countP_eq_zero]
      intro t ht
      rw [List.eq_of_mem_replicate ht]
      simp [z35]
    rw [h0] at a2
    show (openL 0 ns _ 0).1 = (cntN (openL 0 ns _ 0).2 : Int)
    omega
  · have h0 : cntD (List.replicate ns.length z35) = 0 := by
      unfold cntD
      rw [List.countP_eq_zero]
      intro t ht
      rw [List.eq_of_mem_replicate ht]
      simp [z35]
    rw [← h0]
    exact cnt_same List.length_replicate a1 hsame
theorem endsAlive_ev : Ev (fun k => millhandlaw25_alive.f k) true := Ev.of millhandlaw25_alive.mono (k := 60) (by decide +kernel)
theorem needs_room (i many : Int) : ∀ (r : List Int) (last : Int), last < many → needsOk i many last r = true → (r.length : Int) + last + 1 ≤ many
  | [], last, h, _ => by simp; omega
  | x :: r, last, h, hn => by
    simp only [needsOk, Bool.and_eq_true, decide_eq_true_eq] at hn
    have := needs_room i many r x hn.2.1 hn.2.2.2
    rw [List.length_cons]
    omega
theorem needs_short {ns : List NodeT} (hm : mayS ns = true) : ∀ x ∈ ns, x.f0.length ≤ 100000 := by
  intro x hx
  obtain ⟨i, hi, rfl⟩ := List.getElem_of_mem hx
  have h12 := (may_needs hm).1
  unfold mayS at hm
  rw [Bool.and_eq_true, Bool.and_eq_true] at hm
  have := shapeFrom_at (ns.length : Int) ns 0 hm.2.1 i hi
  unfold nodeOk at this
  rw [Bool.and_eq_true] at this
  have := needs_room _ _ _ _ (by omega) this.2
  omega
theorem RunEnds_ev (ns : List NodeT) (x1 : List Int) (hf : fitS ns) (hb : ∀ y ∈ x1, 0 ≤ y ∧ y ≤ 255) (hx1 : x1.length ≤ 9223372036854775807) : Ev (fun k => millhandlaw25_RunEnds.f k ns x1) true := by
  unfold millhandlaw25_RunEnds.f
  refine Ev.bind endsAlive_ev (Ev.bind (Start_ev ns hf needs_short) ?_)
  by_cases hm : mayS ns = true
  rotate_left
  · rw [if_neg hm]
    exact ev_neg (by decide) (Ev.step (fun _ => millhandlaw25_RunEnds.j0.eq_2 ..) (ev_pos rfl (Ev.now _)))
  rw [if_pos hm]
  have h1 := (may_needs hm).2.1
  refine ev_pos rfl (Ev.step (fun _ => millhandlaw25_RunEnds.j0.eq_2 ..) (ev_neg (by decide) ?_))
  have := ends_l0 x1 ns hf (needs_short hm) hm hb hx1 ns.length 0 (startS ns).2 (startS ns).1 (by omega) (start_good hm)
  rw [if_neg (by omega)] at this
  exact this
theorem spec_opened {w : World} {x : S24} {cs : Array Value} (h : k24.K w x cs.toList) : ∃ A c, cs = #[.slice A x.f0.length c] ∧ x.f0.length ≤ c ∧ Kd.C k60 w A x.f0.length x.f0 := by
  obtain ⟨A, c, hcs, hle, hC⟩ := h
  refine ⟨A, c, ?_, hle, hC⟩
  cases cs
  simpa using hcs
theorem RunEnds_walk (w : World) (x0 : S24) (cs0 : Array Value) (r0 : k24.K w x0 cs0.toList) (g0_ : g24 x0) (A1 : Option Addr) (c1 : Nat) (l1 : List Int) (r1 : Kd.C (Kd.int .u8) w A1 l1.length l1) (q1 : l1.length ≤ c1) (g1_ : (l1.length * 1 ≤ 140737488351232 ∧ l1.length ≤ 9223372036854775807 ∧ ∀ y0 ∈ l1, (Lit.int .u8 y0).wf = true)) :
    Calls Try.prog 3 #[.agg cs0, .slice A1 l1.length c1] w fun e w' => e = .returned (.bool true) ∧ Below w.heap.size w w' := by
  obtain ⟨A, c, rfl, hle, hC⟩ := spec_opened r0
  have hf : fitS x0.f0 := ⟨by have := g0_.1; omega, fun x hx => by
    have := (g0_.2.2 x hx).1.1
    omega⟩
  obtain ⟨k, h⟩ := (RunEnds_ev x0.f0 l1 hf (fun y hy => wfu8.mp (g1_.2.2 y hy)) g1_.2.1).rounds
  exact millhandlaw25_RunEnds.calls k A c x0.f0 A1 c1 l1 true w hC hle r1 q1 h rfl
end Go.Proofs.Ytbiphljdommacaa.R

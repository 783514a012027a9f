/- What the types of the laws' arguments read as. -/
import Derived.Test.YtbiphljdommacaaRx6
import Derived.Test.YtbiphljdommacaaOpens
import Derived.Test.YtbiphljdommacaaRx34
import Derived.Test.YtbiphljdommacaaRx27
import Derived.Test.YtbiphljdommacaaRx35
import Derived.Test.YtbiphljdommacaaS3
import Derived.Test.YtbiphljdommacaaSh
import Derived.Test.YtbiphljdommacaaREv
namespace Go.Proofs.Ytbiphljdommacaa.R
open Go.RowKit Go.Proofs.YtbiphljdommacaaW.PrintWords Go.Proofs.Ytbiphljdommacaa.Opens
set_option linter.unusedVariables false
theorem op3 : Opens Try.prog 3 (Kd.int .i64) (fun x => (Lit.int .i64 x).wf = true) := Opens.int Try.underlying3 (by kernel_rfl)
theorem op33 : Opens Try.prog 33 (Kd.slice 3 (Kd.int .i64)) (fun x => (x.length * 8 ≤ 140737488351232 ∧ x.length ≤ 9223372036854775807 ∧ ∀ y0 ∈ x, (Lit.int .i64 y0).wf = true)) := Opens.slice Try.underlying33 (by kernel_rfl) (B := 8) (by kernel_rfl) op3
abbrev g60 (x : S60) : Prop := (x.f0.length * 8 ≤ 140737488351232 ∧ x.f0.length ≤ 9223372036854775807 ∧ ∀ y0 ∈ x.f0, (Lit.int .i64 y0).wf = true) ∧ (Lit.int .i64 x.f1).wf = true ∧ (Lit.int .i64 x.f2).wf = true
theorem op60 : Opens Try.prog 60 k60 (fun x => g60 x) :=
  Opens.struct (fun x : S60 => (x.f0, x.f1, x.f2)) (fun p => (⟨p.1, p.2.1, p.2.2⟩ : S60)) (fun _ => rfl) Try.underlying60 (fl := [(33, 0), (3, 1), (3, 2)]) (by rfl) (by kernel_rfl) (OpensF.more op33 (OpensF.more op3 (OpensF.one op3)))
theorem op22 : Opens Try.prog 22 (Kd.slice 60 k60) (fun x => (x.length * 40 ≤ 140737488351232 ∧ x.length ≤ 9223372036854775807 ∧ ∀ y0 ∈ x, g60 y0)) := Opens.slice Try.underlying22 (by kernel_rfl) (B := 40) (by kernel_rfl) op60
structure S24 where
  f0 : List S60
def k24 : Kd S24 := Kd.iso (Kd.slice 60 k60) (fun x : S24 => x.f0)
abbrev g24 (x : S24) : Prop := (x.f0.length * 40 ≤ 140737488351232 ∧ x.f0.length ≤ 9223372036854775807 ∧ ∀ y0 ∈ x.f0, g60 y0)
theorem op24 : Opens Try.prog 24 k24 (fun x => g24 x) :=
  Opens.struct (fun x : S24 => x.f0) (fun p => (⟨p⟩ : S24)) (fun _ => rfl) Try.underlying24 (fl := [(22, 0)]) (by rfl) (by kernel_rfl) (OpensF.one op22)
theorem op5 : Opens Try.prog 5 (Kd.int .u8) (fun x => (Lit.int .u8 x).wf = true) := Opens.int Try.underlying5 (by kernel_rfl)
abbrev g51 (x : S51) : Prop := (Lit.int .u8 x.f0).wf = true ∧ (Lit.int .i64 x.f1).wf = true ∧ (Lit.int .i64 x.f2).wf = true ∧ (Lit.int .i64 x.f3).wf = true
theorem op51 : Opens Try.prog 51 k51 (fun x => g51 x) :=
  Opens.struct (fun x : S51 => (x.f0, x.f1, x.f2, x.f3)) (fun p => (⟨p.1, p.2.1, p.2.2.1, p.2.2.2⟩ : S51)) (fun _ => rfl) Try.underlying51 (fl := [(5, 0), (3, 1), (3, 2), (3, 3)]) (by rfl) (by kernel_rfl) (OpensF.more op5 (OpensF.more op3 (OpensF.more op3 (OpensF.one op3))))
theorem op47 : Opens Try.prog 47 (Kd.slice 51 k51) (fun x => (x.length * 32 ≤ 140737488351232 ∧ x.length ≤ 9223372036854775807 ∧ ∀ y0 ∈ x, g51 y0)) := Opens.slice Try.underlying47 (by kernel_rfl) (B := 32) (by kernel_rfl) op51
end Go.Proofs.Ytbiphljdommacaa.R
namespace Go.Proofs.Ytbiphljdommacaa.R
open Go.RowKit Go.Proofs.YtbiphljdommacaaW.PrintWords Go.Proofs.YtbiphljdommacaaW.PrintLast Go.Proofs.YtbiphljdommacaaW.PrintMore Go.Proofs.Ytbiphljdommacaa.Plain Go.Proofs.Ytbiphljdommacaa.Opens
set_option linter.unusedVariables false
set_option linter.unusedSimpArgs false
/-! ### tasks that a run without faults has -/
def zT : TaskT := ⟨0, 0, 0, 0, 0⟩
def rT (q : Int) : TaskT := ⟨1, 0, 0, 0, q⟩
def dT : TaskT := ⟨4, 1, 0, 0, 0⟩
theorem node_fit {ns : List NodeT} (h : mayS ns = true) (i : Nat) (hi : i < ns.length) : nodeS ns[i].f1 ns[i].f2 = true := by
  unfold mayS at h
  rw [Bool.and_eq_true, Bool.and_eq_true] at h
  have := shapeFrom_at (ns.length : Int) ns 0 h.2.1 i hi
  unfold nodeOk at this
  rw [Bool.and_eq_true] at this
  exact this.1
theorem ok_zero {a b : Int} (h : nodeS a b = true) : okS a b 0 0 0 0 0 = true := by
  have hb := node_bounds h
  unfold okS tmayS
  rw [h, Bool.true_and, decide_eq_true_eq]
  unfold BoundP ShapeP
  omega
theorem ok_ready {a b q : Int} (h : nodeS a b = true) (h0 : 0 ≤ q) (h1 : q ≤ 1099511627776) : okS a b 1 0 0 0 q = true := by
  have hb := node_bounds h
  unfold okS tmayS
  rw [h, Bool.true_and, decide_eq_true_eq]
  unfold BoundP ShapeP
  omega
theorem ok_done {a b : Int} (h : nodeS a b = true) : okS a b 4 1 0 0 0 = true := by
  have hb := node_bounds h
  unfold okS tmayS
  rw [h, Bool.true_and, decide_eq_true_eq]
  unfold BoundP ShapeP
  omega
theorem mom_in {q : Int} (h0 : 0 ≤ q) (h1 : q ≤ 1099511627776) : momS q = true := decide_eq_true (by omega)
theorem open_zero {x : NodeT} {q : Int} (h : nodeS x.f1 x.f2 = true) (h0 : 0 ≤ q) (h1 : q ≤ 1099511627776) : mkT (openAt x zT q) = rT q := by
  unfold openAt openS inS
  rw [show okS x.f1 x.f2 zT.f0 zT.f1 zT.f2 zT.f3 zT.f4 = true from ok_zero h, if_pos rfl, mom_in h0 h1, if_pos rfl, if_pos (show zT.f0 = 0 from rfl), if_pos rfl]
  rfl
theorem stateN_tk (ts : List TaskT) (n : Nat) : stateN ts (n : Int) = (tk ts n).f0 := rfl
theorem metS_same {ts ts' : List TaskT} {l : List Int} {n : Nat} (hr : ∀ k ∈ l, 0 ≤ k ∧ k < (n : Int)) (h : ∀ j, j < n → ((tk ts' j).f0 = 4 ↔ (tk ts j).f0 = 4)) : metS ts' l = metS ts l := by
  unfold metS
  rw [Bool.eq_iff_iff, List.all_eq_true, List.all_eq_true]
  refine forall_congr' fun k => forall_congr' fun hk => ?_
  obtain ⟨h0, h1⟩ := hr k hk
  obtain ⟨m, rfl⟩ : ∃ m : Nat, k = (m : Int) := ⟨k.toNat, by omega⟩
  rw [stateN_tk, stateN_tk, beq_iff_eq, beq_iff_eq]
  exact h m (by omega)
def cntN (ts : List TaskT) : Nat := ts.countP fun t => t.f0 != 0
theorem cntN_open (ts : List TaskT) (i : Nat) (q : Int) (hi : i < ts.length) (h0 : (tk ts i).f0 = 0) : cntN (ts.set i (rT q)) = cntN ts + 1 := by
  unfold cntN
  rw [List.countP_set hi]
  rw [tk_at ts i hi] at h0
  simp [h0, rT]
theorem openL_spec {ns : List NodeT} (hm : mayS ns = true) : ∀ (r : List NodeT) (i : Nat) (ts : List TaskT) (rank : Int), r = ns.drop i → i + r.length = ns.length → ts.length = ns.length → 0 ≤ rank → rank + r.length ≤ 1099511627776 →
    (∀ j, i ≤ j → j < ns.length → (tk ts j).f0 = 0 → tk ts j = zT) →
    (openL i r ts rank).2.length = ns.length ∧ (openL i r ts rank).1 + cntN ts = rank + cntN (openL i r ts rank).2 ∧ ∀ (j : Nat) (hj : j < ns.length), (j < i → tk (openL i r ts rank).2 j = tk ts j) ∧
      (i ≤ j → ((tk ts j).f0 = 0 ∧ metS ts ns[j].f0 = true ∧ ∃ q, 0 ≤ q ∧ q ≤ 1099511627776 ∧ tk (openL i r ts rank).2 j = rT q) ∨ (¬ ((tk ts j).f0 = 0 ∧ metS ts ns[j].f0 = true) ∧ tk (openL i r ts rank).2 j = tk ts j))
  | [], i, ts, rank, hr, hl, ht, h0, h1, hz => ⟨ht, rfl, fun j hj => ⟨fun _ => rfl, fun h => by simp at hl; omega⟩⟩
  | x :: r, i, ts, rank, hr, hl, ht, h0, h1, hz => by
    have hi : i < ns.length := by simp at hl; omega
    rw [List.drop_eq_getElem_cons hi] at hr
    obtain ⟨rfl, rfl⟩ : x = ns[i] ∧ r = ns.drop (i + 1) := List.cons.inj hr
    have hlen : (ns.drop (i + 1)).length = ns.length - (i + 1) := List.length_drop
    have h1' : rank + 1 + ((ns.drop (i + 1)).length : Int) ≤ 1099511627776 := by rw [List.length_cons] at h1; omega
    have hneeds := (may_needs hm).2.2
    by_cases hc : (tk ts i).f0 = 0 ∧ metS ts ns[i].f0 = true
    · rw [openL, if_pos hc]
      have hzi := hz i (Nat.le_refl _) hi hc.1
      rw [hzi, open_zero (node_fit hm i hi) h0 (by omega), w64 (by omega) (by omega)]
      have hset : ∀ j, j < ns.length → tk (ts.set i (rT rank)) j = if i = j then rT rank else tk ts j := fun j hj => tk_set ts i j _ (by omega)
      have hmet : ∀ l : List Int, (∀ k ∈ l, 0 ≤ k ∧ k < (ns.length : Int)) → metS (ts.set i (rT rank)) l = metS ts l := fun l hl => metS_same hl fun j hj => by
        rw [hset j hj]
        by_cases e : i = j
        · rw [if_pos e, ← e, hc.1]; simp [rT]
        · rw [if_neg e]
      obtain ⟨a1, a2, a3⟩ := openL_spec hm (ns.drop (i + 1)) (i + 1) (ts.set i (rT rank)) (rank + 1) rfl (by omega) (by rw [List.length_set]; exact ht) (by omega) h1' (fun j hj hjn h => by
        rw [hset j hjn, if_neg (by omega)] at h ⊢
        exact hz j (by omega) hjn h)
      refine ⟨a1, ?_, fun j hj => ⟨fun hji => ?_, fun hij => ?_⟩⟩
      · rw [cntN_open ts i rank (by omega) hc.1] at a2
        omega
      · rw [(a3 j hj).1 (by omega), hset j hj, if_neg (by omega)]
      · by_cases e : i = j
        · subst e
          exact Or.inl ⟨hc.1, hc.2, rank, h0, by omega, by rw [(a3 i hj).1 (by omega), hset i hj, if_pos rfl]⟩
        · have := (a3 j hj).2 (by omega)
          rw [hset j hj, if_neg e, hmet _ (hneeds _ (List.getElem_mem hj))] at this
          exact this
    · rw [openL, if_neg hc]
      obtain ⟨a1, a2, a3⟩ := openL_spec hm (ns.drop (i + 1)) (i + 1) ts rank rfl (by omega) ht h0 (by omega) (fun j hj hjn h => hz j (by omega) hjn h)
      refine ⟨a1, a2, fun j hj => ⟨fun hji => (a3 j hj).1 (by omega), fun hij => ?_⟩⟩
      by_cases e : i = j
      · subst e
        exact Or.inr ⟨hc, (a3 i hj).1 (by omega)⟩
      · exact (a3 j hj).2 (by omega)
/-! ### a run without faults -/
def cntD (ts : List TaskT) : Nat := ts.countP fun t => t.f0 == 4
def Good (ns : List NodeT) (ts : List TaskT) (rank : Int) (c : Nat) : Prop :=
  ts.length = ns.length ∧ (∀ j, j < ns.length → tk ts j = zT ∨ (∃ q, 0 ≤ q ∧ q ≤ 1099511627776 ∧ tk ts j = rT q) ∨ tk ts j = dT) ∧
  (∀ (j : Nat) (hj : j < ns.length), (tk ts j).f0 = 0 ↔ metS ts ns[j].f0 = false) ∧ rank = cntN ts ∧ cntD ts = c
theorem mem_tk {ts : List TaskT} {t : TaskT} (h : t ∈ ts) : ∃ j, j < ts.length ∧ t = tk ts j := by
  obtain ⟨j, hj, rfl⟩ := List.getElem_of_mem h
  exact ⟨j, hj, (tk_at ts j hj).symm⟩
theorem tk_mem {ts : List TaskT} {j : Nat} (h : j < ts.length) : tk ts j ∈ ts := by rw [tk_at ts j h]; exact List.getElem_mem h
theorem tasksOk_of (ts : List TaskT) (ns : List NodeT) (h : ∀ (j : Nat) (hj : j < ns.length), taskOk ns[j] (tk ts j) = true) : ∀ (r : List NodeT) (i : Nat), r = ns.drop i → i + r.length = ns.length → tasksOk ts i r = true
  | [], _, _, _ => rfl
  | x :: r, i, hr, hl => by
    have hi : i < ns.length := by simp at hl; omega
    rw [List.drop_eq_getElem_cons hi] at hr
    obtain ⟨rfl, rfl⟩ := List.cons.inj hr
    rw [tasksOk, tasksOk_of ts ns h _ (i + 1) rfl (by simp; omega), Bool.and_true]
    exact h i hi
theorem goesOk_of (ts : List TaskT) (ns : List NodeT) (h : ∀ (j : Nat) (hj : j < ns.length), (tk ts j).f0 = 0 ↔ metS ts ns[j].f0 = false) : ∀ (r : List NodeT) (i : Nat), r = ns.drop i → i + r.length = ns.length → goesOk ts i r = true
  | [], _, _, _ => rfl
  | x :: r, i, hr, hl => by
    have hi : i < ns.length := by simp at hl; omega
    rw [List.drop_eq_getElem_cons hi] at hr
    obtain ⟨rfl, rfl⟩ := List.cons.inj hr
    rw [goesOk, goesOk_of ts ns h _ (i + 1) rfl (by simp; omega), Bool.and_true, stateN_tk]
    have := h i hi
    cases hm : metS ts ns[i].f0 with
    | true =>
      have : ¬ (tk ts i).f0 = 0 := fun e => by rw [this.mp e] at hm; cases hm
      simp [this]
    | false => simp [this.mpr hm]
theorem may_mk {ns : List NodeT} {ts : List TaskT} (hm : mayS ns = true) (hl : ts.length = ns.length) (h1 : ∀ (j : Nat) (hj : j < ns.length), taskOk ns[j] (tk ts j) = true) (h2 : ∀ (j : Nat) (hj : j < ns.length), (tk ts j).f0 = 0 ↔ metS ts ns[j].f0 = false)
    (h3 : ∃ j, j < ns.length ∧ (tk ts j).f0 ≠ 4) (h4 : ∀ j, j < ns.length → (tk ts j).f0 ≠ 5 ∧ (tk ts j).f0 ≠ 6) : mayRun 1 ⟨#[97]⟩ ns 1 ts = true := by
  have e1 : allS ts [4] = false := by
    obtain ⟨j, hj, hn⟩ := h3
    unfold allS
    rw [List.all_eq_false]
    exact ⟨tk ts j, tk_mem (by omega), by simp [hn]⟩
  have e2 : someS ts [5, 6] = false := by
    unfold someS
    rw [List.any_eq_false]
    intro t ht
    obtain ⟨j, hj, rfl⟩ := mem_tk ht
    have := h4 j (by omega)
    simp [this.1, this.2]
  unfold mayRun standsS
  rw [hm, tasksOk_of ts ns h1 ns 0 rfl (by omega), if_pos rfl, goesOk_of ts ns h2 ns 0 rfl (by omega), e1, e2, decide_eq_true hl]
  rfl
theorem cnt_same {ts ts' : List TaskT} {n : Nat} (hl : ts.length = n) (hl' : ts'.length = n) (h : ∀ j, j < n → ((tk ts' j).f0 = 4 ↔ (tk ts j).f0 = 4)) : cntD ts' = cntD ts := by
  have e : ts'.map (fun t => t.f0 == 4) = ts.map (fun t => t.f0 == 4) := by
    apply List.ext_getElem
    · rw [List.length_map, List.length_map, hl, hl']
    · intro j h1 h2
      rw [List.getElem_map, List.getElem_map]
      have := h j (by rw [List.length_map] at h1; omega)
      rw [tk_at ts' j (by rw [List.length_map] at h1; omega), tk_at ts j (by rw [List.length_map] at h2; omega)] at this
      rw [Bool.eq_iff_iff, beq_iff_eq, beq_iff_eq]
      exact this
  unfold cntD
  have c (l : List TaskT) : l.countP (fun t => t.f0 == 4) = (l.map (fun t => t.f0 == 4)).countP id := by rw [List.countP_map]; rfl
  rw [c, c, e]
theorem form_ok {x : NodeT} {t : TaskT} (hx : nodeS x.f1 x.f2 = true) (h : t = zT ∨ (∃ q, 0 ≤ q ∧ q ≤ 1099511627776 ∧ t = rT q) ∨ t = dT) : taskOk x t = true := by
  rcases h with rfl | ⟨q, q0, q1, rfl⟩ | rfl
  · exact ok_zero hx
  · exact ok_ready hx q0 q1
  · exact ok_done hx
theorem form_state {t : TaskT} (h : t = zT ∨ (∃ q, 0 ≤ q ∧ q ≤ 1099511627776 ∧ t = rT q) ∨ t = dT) : (t.f0 = 0 ∧ t = zT) ∨ t.f0 = 1 ∨ t.f0 = 4 := by
  rcases h with rfl | ⟨q, _, _, rfl⟩ | rfl
  · exact Or.inl ⟨rfl, rfl⟩
  · exact Or.inr (Or.inl rfl)
  · exact Or.inr (Or.inr rfl)
abbrev keyA : ByteArray := ⟨#[97]⟩
theorem getD_node (ns : List NodeT) (p : Nat) (hp : p < ns.length) : ns.getD p ⟨[], 0, 0⟩ = ns[p] := by rw [List.getD_eq_getElem?_getD, List.getElem?_eq_getElem hp]; rfl
section
variable (x1 : List Int) (ns : List NodeT)
variable (hf : fitS ns) (hx : ∀ x ∈ ns, x.f0.length ≤ 100000) (hm : mayS ns = true) (hb : ∀ y ∈ x1, 0 ≤ y ∧ y ≤ 255) (hx1 : x1.length ≤ 9223372036854775807)
include hf hx hm hb hx1
end
theorem start_good {ns : List NodeT} (hm : mayS ns = true) : Good ns (startS ns).2 (startS ns).1 0 := by
  obtain ⟨h12, _, hneeds⟩ := may_needs hm
  have hz : ∀ j, j < ns.length → tk (List.replicate ns.length z35) j = zT := fun j hj => by
    rw [tk_at _ j (by rw [List.length_replicate]; exact hj), List.getElem_replicate]; rfl
  obtain ⟨a1, a2, a3⟩ := openL_spec hm ns 0 (List.replicate ns.length z35) 0 rfl (by omega) List.length_replicate (Int.le_refl 0) (by omega) (fun j _ hj _ => hz j hj)
  have hsame : ∀ j, j < ns.length → ((tk (openL 0 ns (List.replicate ns.length z35) 0).2 j).f0 = 4 ↔ (tk (List.replicate ns.length z35) j).f0 = 4) := fun j hj => by
    rcases (a3 j hj).2 (Nat.zero_le _) with ⟨b, _, q', _, _, b2⟩ | ⟨_, b⟩
    · rw [b2, b]; simp [rT]
    · rw [b]
  refine ⟨a1, fun j hj => ?_, fun j hj => ?_, ?_, ?_⟩
  · rcases (a3 j hj).2 (Nat.zero_le _) with ⟨_, _, q', b0, b1, b2⟩ | ⟨_, b⟩
    · exact Or.inr (Or.inl ⟨q', b0, b1, b2⟩)
    · rw [show tk (startS ns).2 j = _ from b, hz j hj]; exact Or.inl rfl
  · show (tk (openL 0 ns _ 0).2 j).f0 = 0 ↔ metS (openL 0 ns _ 0).2 ns[j].f0 = false
    rw [metS_same (hneeds _ (List.getElem_mem hj)) hsame]
    rcases (a3 j hj).2 (Nat.zero_le _) with ⟨b, b', q', _, _, b2⟩ | ⟨b, b'⟩
    · rw [b2, b']; simp [rT]
    · rw [b', hz j hj] at *
      cases hmm : metS (List.replicate ns.length z35) ns[j].f0 with
      | true => exact absurd ⟨rfl, hmm⟩ b
      | false => simp [zT]
  · have h0 : cntN (List.replicate ns.length z35) = 0 := by
      unfold cntN
      rw [List.countP_eq_zero]
      intro t ht
      rw [List.eq_of_mem_replicate ht]
      simp [z35]
    rw [h0] at a2
    show (openL 0 ns _ 0).1 = (cntN (openL 0 ns _ 0).2 : Int)
    omega
  · have h0 : cntD (List.replicate ns.length z35) = 0 := by
      unfold cntD
      rw [List.countP_eq_zero]
      intro t ht
      rw [List.eq_of_mem_replicate ht]
      simp [z35]
    rw [← h0]
    exact cnt_same List.length_replicate a1 hsame
theorem endsAlive_ev : Ev (fun k => millhandlaw25_alive.f k) true := Ev.of millhandlaw25_alive.mono (k := 60) (by decide +kernel)
theorem needs_room (i many : Int) : ∀ (r : List Int) (last : Int), last < many → needsOk i many last r = true → (r.length : Int) + last + 1 ≤ many
  | [], last, h, _ => by simp; omega
  | x :: r, last, h, hn => by
    simp only [needsOk, Bool.and_eq_true, decide_eq_true_eq] at hn
    have := needs_room i many r x hn.2.1 hn.2.2.2
    rw [List.length_cons]
    omega
theorem needs_short {ns : List NodeT} (hm : mayS ns = true) : ∀ x ∈ ns, x.f0.length ≤ 100000 := by
  intro x hx
  obtain ⟨i, hi, rfl⟩ := List.getElem_of_mem hx
  have h12 := (may_needs hm).1
  unfold mayS at hm
  rw [Bool.and_eq_true, Bool.and_eq_true] at hm
  have := shapeFrom_at (ns.length : Int) ns 0 hm.2.1 i hi
  unfold nodeOk at this
  rw [Bool.and_eq_true] at this
  have := needs_room _ _ _ _ (by omega) this.2
  omega
theorem spec_opened {w : World} {x : S24} {cs : Array Value} (h : k24.K w x cs.toList) : ∃ A c, cs = #[.slice A x.f0.length c] ∧ x.f0.length ≤ c ∧ Kd.C k60 w A x.f0.length x.f0 := by
  obtain ⟨A, c, hcs, hle, hC⟩ := h
  refine ⟨A, c, ?_, hle, hC⟩
  cases cs
  simpa using hcs
end Go.Proofs.Ytbiphljdommacaa.R

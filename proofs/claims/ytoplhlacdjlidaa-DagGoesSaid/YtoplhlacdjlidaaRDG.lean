/- The law of what is ready, in plain words. -/
import Derived.Test.YtoplhlacdjlidaaRx15
import Derived.Test.YtoplhlacdjlidaaRx16
import Derived.Test.YtoplhlacdjlidaaRx4
import Derived.Test.YtoplhlacdjlidaaRx17
import Derived.Test.YtoplhlacdjlidaaRx18
import Derived.Test.YtoplhlacdjlidaaRx20
import Derived.Test.YtoplhlacdjlidaaRDP
import Derived.Test.YtoplhlacdjlidaaROp
namespace Go.Proofs.Ytoplhlacdjlidaa.R
open Go.RowKit Go.Proofs.YtoplhlacdjlidaaW.PrintWords Go.Proofs.YtoplhlacdjlidaaW.PrintLast Go.Proofs.YtoplhlacdjlidaaW.PrintMore Go.Proofs.Ytoplhlacdjlidaa.Plain
set_option linter.unusedVariables false
set_option linter.unusedSimpArgs false
def greatS (l : List NodeT) : Bool := decide (60 < l.length) || l.any fun x => decide (60 < x.f0.length)
theorem great_l0 (l : List NodeT) (h60 : l.length ≤ 60) : ∀ (d i : Nat), i + d = l.length → Ev (fun k => millhandref23_Great.l0 k (i : Int) l) ((l.drop i).any fun x => decide (60 < x.f0.length))
  | 0, i, h => by
    rw [List.drop_eq_nil_of_le (by omega)]
    exact Ev.step (fun _ => millhandref23_Great.l0.eq_2 ..) (ev_neg (by omega) (Ev.now _))
  | d + 1, i, h => by
    have hi : i < l.length := by omega
    refine Ev.step (fun _ => millhandref23_Great.l0.eq_2 ..) (ev_pos (by omega) (ev_pos (by omega) ?_))
    rw [rd_node l i hi, List.drop_eq_getElem_cons hi, List.any_cons]
    by_cases hx : 60 < l[i].f0.length
    · rw [decide_eq_true hx, Bool.true_or]
      exact ev_pos (by omega) (Ev.now _)
    · rw [decide_eq_false hx, Bool.false_or]
      refine ev_neg (by omega) ?_
      rw [w64 (by omega) (by omega), show (i : Int) + 1 = ((i + 1 : Nat) : Int) by omega]
      exact great_l0 l h60 d (i + 1) (by omega)
theorem great_ev (l : List NodeT) : Ev (fun k => millhandref23_Great.f k l) (greatS l) := by
  unfold millhandref23_Great.f greatS
  by_cases h : 60 < l.length
  · rw [decide_eq_true h, Bool.true_or]
    exact ev_pos (by omega) (Ev.now _)
  · rw [decide_eq_false h, Bool.false_or]
    have := great_l0 l (by omega) l.length 0 (by omega)
    exact ev_neg (by omega) this
theorem great_fit {l : List NodeT} (h : greatS l = false) : fitS l ∧ l.length ≤ 60 := by
  unfold greatS at h
  rw [Bool.or_eq_false_iff, decide_eq_false_iff_not, List.any_eq_false] at h
  refine ⟨⟨by omega, fun x hx => ?_⟩, by omega⟩
  have := h.2 x hx
  simp at this
  omega
theorem dagAlive_ev : Ev (fun k => millhandlaw23_alive.f k) true := Ev.of millhandlaw23_alive.mono (k := 60) (by decide +kernel)
theorem avail_marks (l : List NodeT) (hs : shapeS l = true) (acc : List Nat) (i : Nat) (hi : i < l.length) : (!((marks l.length acc).getD i false) && metS (needs l i) (marks l.length acc)) = avail l acc i := by
  have := met_marks l hs acc i hi
  rw [← needs_at l i hi] at this
  rw [marks_at l.length acc i hi, this]
  rfl
theorem open_marks (l : List NodeT) (hs : shapeS l = true) (acc : List Nat) : openS l (marks l.length acc) = ((List.range l.length).filter (avail l acc)).map Int.ofNat := by
  unfold openS
  congr 1
  exact List.filter_congr fun i hi => avail_marks l hs acc i (List.mem_range.mp hi)
/-- Where something is not done, something is ready: what stands first of it in the order. -/
theorem some_ready (l : List NodeT) (hs : shapeS l = true) (hr : (rowN l).length = l.length) (acc : List Nat) : ∀ (n i : Nat), placeOf i (rowN l) ≤ n → i < l.length → acc.contains i = false → ∃ j, j < l.length ∧ avail l acc j = true
  | n, i, hn, hi, hc => by
    by_cases hb : (needs l i).all (inN acc) = true
    · exact ⟨i, hi, by unfold avail; rw [hc, hb]; rfl⟩
    · simp only [List.all_eq_true, Classical.not_forall] at hb
      obtain ⟨k, hk, hk2⟩ := hb
      obtain ⟨k0, k1, _⟩ := shape_needs l hs i hi k hk
      obtain ⟨v, rfl⟩ := Int.eq_ofNat_of_zero_le k0
      rw [inN_nat] at hk2
      have hlt := row_rank hr i v hi ((edge_iff l i v).mpr hk)
      match n, hn with
      | 0, hn => exact absurd hlt (by omega)
      | n + 1, hn => exact some_ready l hs hr acc n v (by omega) (by omega) (by simpa using hk2)
theorem und_full (n : Nat) (acc : List Nat) (h : (und n acc).length = 0) (i : Nat) (hi : i < n) : acc.contains i = true := by
  cases hc : acc.contains i with
  | true => rfl
  | false =>
    have : i ∈ und n acc := List.mem_filter.mpr ⟨List.mem_range.mpr hi, by rw [hc]; rfl⟩
    rw [List.eq_nil_of_length_eq_zero h] at this
    exact absurd this (by simp)
theorem DagGoes_l0 (l : List NodeT) (hf : fitS l) (x : List Int) (hx : ∀ y ∈ x, 0 ≤ y ∧ y ≤ 255) (hxl : x.length ≤ 9223372036854775807) (hm : mayS l = true) : ∀ (e i : Nat) (acc : List Nat), i + e = l.length → (und l.length acc).length + i = l.length → Ev (fun k => millhandlaw23_DagGoes.l0 k x (marks l.length acc) (i : Int) l) true
  | 0, i, acc, h, hu => by
    obtain ⟨p1, p2, p3, p4⟩ := may_parts hm
    refine Ev.step (fun _ => millhandlaw23_DagGoes.l0.eq_2 ..) (ev_neg (by omega) (Ev.bind (Ready_ev l hf _) ?_))
    unfold readyS
    rw [if_pos ((check_zero l).mpr hm), if_pos (marks_length _ _)]
    have : openS l (marks l.length acc) = [] := by
      rw [open_marks l p3 acc, show (List.range l.length).filter (avail l acc) = [] from List.filter_eq_nil_iff.mpr fun i hi => by
        unfold avail
        rw [und_full l.length acc (by omega) i (List.mem_range.mp hi)]
        simp]
      rfl
    rw [this]
    exact ev_pos rfl (ev_some rfl)
  | e + 1, i, acc, h, hu => by
    obtain ⟨p1, p2, p3, p4⟩ := may_parts hm
    have hml := marks_length l.length acc
    have hne : und l.length acc ≠ [] := by
      intro hn
      rw [hn] at hu
      simp at hu
      omega
    obtain ⟨u, hu1⟩ := List.exists_mem_of_ne_nil _ hne
    have hu2 := List.mem_filter.mp hu1
    obtain ⟨j, hj, hav⟩ := some_ready l p3 p4 acc _ u (Nat.le_refl _) (List.mem_range.mp hu2.1) (by simpa using hu2.2)
    obtain ⟨L, hL⟩ : ∃ L, L = openS l (marks l.length acc) := ⟨_, rfl⟩
    have hLm := hL.trans (open_marks l p3 acc)
    have hLe : ∀ (q : Nat) (hq : q < L.length), ∃ v : Nat, L[q] = (v : Int) ∧ v < l.length ∧ acc.contains v = false := by
      intro q hq
      obtain ⟨z, hz⟩ : ∃ z, z = L[q] := ⟨_, rfl⟩
      have hmem : z ∈ L := by rw [hz]; exact List.getElem_mem hq
      rw [hLm, List.mem_map] at hmem
      obtain ⟨v, hv, e1⟩ := hmem
      obtain ⟨hv1, hv2⟩ := List.mem_filter.mp hv
      refine ⟨v, ?_, List.mem_range.mp hv1, ?_⟩
      · rw [← hz, ← e1]
        rfl
      · simp only [avail, Bool.and_eq_true, Bool.not_eq_true'] at hv2
        exact hv2.1
    have hLn : 0 < L.length := by
      have : (j : Int) ∈ L := by
        rw [hLm, List.mem_map]
        exact ⟨j, List.mem_filter.mpr ⟨List.mem_range.mpr hj, hav⟩, rfl⟩
      exact List.length_pos_of_mem this
    have next : ∀ (q : Int), 0 ≤ q → q < (L.length : Int) → ∃ v : Nat, rd L q = (v : Int) ∧ v < l.length ∧ rdOf false (marks l.length acc) (v : Int) = false ∧ Ev (fun k => millhandlaw23_DagGoes.l0 k x ((marks l.length acc).set ((v : Int)).toNat true) (wrap64 ((i : Int) + 1)) l) true := by
      intro q q0 q1
      obtain ⟨q, rfl⟩ := Int.eq_ofNat_of_zero_le q0
      obtain ⟨v, e1, e2, e3⟩ := hLe q (by omega)
      refine ⟨v, by rw [rd_int L q (by omega)]; exact e1, e2, ?_, ?_⟩
      · have h2 := marks_at l.length acc v e2
        rw [rd_boolL _ v (by omega), ← e3, ← h2]
        simp [List.getD, List.getElem?_eq_getElem (show v < (marks l.length acc).length by omega)]
      · rw [Int.toNat_natCast, marks_set l.length acc v e2, w64 (by omega) (by omega), show (i : Int) + 1 = ((i + 1 : Nat) : Int) by omega]
        have := und_step l.length acc v e2 e3
        exact DagGoes_l0 l hf x hx hxl hm e (i + 1) (acc ++ [v]) (by omega) (by omega)
    refine Ev.step (fun _ => millhandlaw23_DagGoes.l0.eq_2 ..) (ev_pos (by omega) (Ev.bind (Ready_ev l hf _) ?_))
    unfold readyS
    rw [if_pos ((check_zero l).mpr hm), if_pos (marks_length _ _), ← hL]
    clear hLm hLe hne hu1 hu2 hav hL
    dsimp only
    refine ev_pos rfl (Ev.step (fun _ => millhandlaw23_DagGoes.j2.eq_2 ..) (ev_neg (by rw [beq_iff_eq]; omega) ?_))
    by_cases hx0 : (x.length : Int) > 0
    · refine ev_pos hx0 (ev_neg (by omega) ?_)
      have ht : (0 : Int) ≤ Int.tmod (i : Int) (x.length : Int) ∧ Int.tmod (i : Int) (x.length : Int) < (x.length : Int) := by
        rw [Int.tmod_eq_emod_of_nonneg (by omega)]
        exact ⟨Int.emod_nonneg _ (by omega), Int.emod_lt_of_pos _ hx0⟩
      refine ev_pos ht.1 (ev_pos ht.2 (ev_neg (by omega) ?_))
      obtain ⟨P, hP⟩ : ∃ P, P = rd x (Int.tmod (i : Int) (x.length : Int)) := ⟨_, rfl⟩
      have hPr : 0 ≤ P ∧ P ≤ 255 := by
        obtain ⟨ht0, ht1⟩ := ht
        obtain ⟨q, hq⟩ := Int.eq_ofNat_of_zero_le ht0
        rw [hP, hq, rd_int x q (by omega)]
        exact hx _ (List.getElem_mem _)
      rw [← hP, w64 (by omega) (by omega)]
      have ht2 : (0 : Int) ≤ Int.tmod P (L.length : Int) ∧ Int.tmod P (L.length : Int) < (L.length : Int) := by
        rw [Int.tmod_eq_emod_of_nonneg hPr.1]
        exact ⟨Int.emod_nonneg _ (by omega), Int.emod_lt_of_pos _ (by omega)⟩
      obtain ⟨v, e1, e2, e3, e4⟩ := next _ ht2.1 ht2.2
      rw [e1]
      exact ev_pos ht2.1 (ev_pos ht2.2 (ev_pos (by omega) (ev_pos (by omega) (ev_neg (by rw [e3]; decide) e4))))
    · obtain ⟨v, e1, e2, e3, e4⟩ := next 0 (by omega) (by omega)
      refine ev_neg hx0 (ev_pos (by omega) ?_)
      rw [e1]
      exact ev_pos (by omega) (ev_pos (by omega) (ev_neg (by rw [e3]; decide) e4))
theorem DagGoes_ev (l : List NodeT) (x : List Int) (hx : ∀ y ∈ x, 0 ≤ y ∧ y ≤ 255) (hxl : x.length ≤ 9223372036854775807) : Ev (fun k => millhandlaw23_DagGoes.f k l x) true := by
  unfold millhandlaw23_DagGoes.f
  have hT : Ev (fun k => millhandlaw23_DagGoes.j0 k x true true l) true := Ev.step (fun _ => millhandlaw23_DagGoes.j0.eq_2 ..) (ev_pos rfl (Ev.now _))
  refine Ev.bind dagAlive_ev (Ev.bind (great_ev l) ?_)
  cases hg : greatS l with
  | true => exact ev_pos rfl hT
  | false =>
    obtain ⟨hf, h60⟩ := great_fit hg
    refine ev_neg (by decide) (Ev.bind (check_ev l hf) ?_)
    by_cases h : checkS l = 0
    · refine ev_pos h (Ev.step (fun _ => millhandlaw23_DagGoes.j0.eq_2 ..) (ev_neg (by decide) (ev_pos (by omega) (ev_pos (by omega) ?_))))
      have hu : und l.length [] = List.range l.length := List.filter_eq_self.mpr (fun _ _ => rfl)
      have := DagGoes_l0 l hf x hx hxl ((check_zero l).mp h) l.length 0 [] (by omega) (by rw [hu]; simp)
      rw [marks_nil] at this
      rw [Int.toNat_natCast]
      exact this
    · exact ev_neg h hT
theorem spec_open {w : World} {x : S25} {cs : Array Value} (h : k25.K w x cs.toList) : ∃ A c, cs = #[.slice A x.f0.length c] ∧ x.f0.length ≤ c ∧ Kd.C k40 w A x.f0.length x.f0 := by
  obtain ⟨A, c, hcs, hle, hC⟩ := h
  refine ⟨A, c, ?_, hle, hC⟩
  cases cs
  simpa using hcs
theorem DagGoes_walk (w : World) (x0 : S25) (cs0 : Array Value) (r0 : k25.K w x0 cs0.toList) (g0_ : g25 x0) (A1 : Option Addr) (c1 : Nat) (l1 : List Int) (r1 : Kd.C (Kd.int .u8) w A1 l1.length l1) (q1 : l1.length ≤ c1) (g1_ : (l1.length * 1 ≤ 140737488351232 ∧ l1.length ≤ 9223372036854775807 ∧ ∀ y0 ∈ l1, (Lit.int .u8 y0).wf = true)) :
    Calls Try.prog 5 #[.agg cs0, .slice A1 l1.length c1] w fun e w' => e = .returned (.bool true) ∧ Below w.heap.size w w' := by
  obtain ⟨A, c, rfl, hle, hC⟩ := spec_open r0
  obtain ⟨k, h⟩ := (DagGoes_ev x0.f0 l1 (fun y hy => wfu8.mp (g1_.2.2 y hy)) g1_.2.1).rounds
  exact millhandlaw23_DagGoes.calls k A c x0.f0 A1 c1 l1 true w hC hle r1 q1 h
end Go.Proofs.Ytoplhlacdjlidaa.R

/- A spec that is written is read back, in plain words. -/
import Derived.Test.YtoplhlacdjlidaaRx24
import Derived.Test.YtoplhlacdjlidaaRx9
import Derived.Test.YtoplhlacdjlidaaRx27
import Derived.Test.YtoplhlacdjlidaaRDV
import Derived.Test.YtoplhlacdjlidaaRRD
import Derived.Test.YtoplhlacdjlidaaROp
namespace Go.Proofs.Ytoplhlacdjlidaa.R
open Go.RowKit Go.Proofs.YtoplhlacdjlidaaW.PrintWords Go.Proofs.YtoplhlacdjlidaaW.PrintLast Go.Proofs.YtoplhlacdjlidaaW.PrintMore Go.Proofs.Ytoplhlacdjlidaa.Plain Go.Proofs.Ytoplhlacdjlidaa.Opens
set_option linter.unusedVariables false
set_option linter.unusedSimpArgs false
def greatS (l : List NodeT) : Bool := decide (60 < l.length) || l.any fun x => decide (60 < x.f0.length)
theorem great_l0 (l : List NodeT) (h60 : l.length ≤ 60) : ∀ (d i : Nat), i + d = l.length → Ev (fun k => millhandref23_Great.l0 k (i : Int) l) ((l.drop i).any fun x => decide (60 < x.f0.length))
  | 0, i, h => by
    rw [List.drop_eq_nil_of_le (by omega)]
    exact Ev.step (fun _ => millhandref23_Great.l0.eq_2 ..) (ev_neg (by omega) (Ev.now _))
  | d + 1, i, h => by
    have hi : i < l.length := by omega
    refine Ev.step (fun _ => millhandref23_Great.l0.eq_2 ..) (ev_pos (by omega) (ev_pos (by omega) ?_))
    rw [rd_node l i hi, List.drop_eq_getElem_cons hi, List.any_cons]
    by_cases hx : 60 < l[i].f0.length
    · rw [decide_eq_true hx, Bool.true_or]
      exact ev_pos (by omega) (Ev.now _)
    · rw [decide_eq_false hx, Bool.false_or]
      refine ev_neg (by omega) ?_
      rw [w64 (by omega) (by omega), show (i : Int) + 1 = ((i + 1 : Nat) : Int) by omega]
      exact great_l0 l h60 d (i + 1) (by omega)
theorem great_ev (l : List NodeT) : Ev (fun k => millhandref23_Great.f k l) (greatS l) := by
  unfold millhandref23_Great.f greatS
  by_cases h : 60 < l.length
  · rw [decide_eq_true h, Bool.true_or]
    exact ev_pos (by omega) (Ev.now _)
  · rw [decide_eq_false h, Bool.false_or]
    have := great_l0 l (by omega) l.length 0 (by omega)
    exact ev_neg (by omega) this
theorem great_fit {l : List NodeT} (h : greatS l = false) : fitS l ∧ l.length ≤ 60 := by
  unfold greatS at h
  rw [Bool.or_eq_false_iff, decide_eq_false_iff_not, List.any_eq_false] at h
  refine ⟨⟨by omega, fun x hx => ?_⟩, by omega⟩
  have := h.2 x hx
  simp at this
  omega
theorem dagAlive_ev : Ev (fun k => millhandlaw23_alive.f k) true := Ev.of millhandlaw23_alive.mono (k := 60) (by decide +kernel)
/-! ### what is written is read back -/
theorem numD_small {most v : Int} (h0 : 0 ≤ v) (h1 : v ≤ most) (h2 : most < 18446744073709551616) (rest : List Int) (ok : Bool) : numD most (smallN v.toNat ++ rest) ok = (v, rest, ok) := by
  unfold numD
  rw [rd1_small0 (show v.toNat < 18446744073709551616 by omega)]
  dsimp only
  rw [if_neg (by omega), List.drop_left, show ((v.toNat : Nat) : Int) = v by omega]
theorem needsD_small : ∀ (x acc rest : List Int) (ok : Bool), (∀ v ∈ x, 0 ≤ v ∧ v ≤ 12) → needsD x.length acc (bytesOf x ++ rest) ok = (acc ++ x, rest, ok)
  | [], acc, rest, ok, _ => by rw [List.append_nil]; rfl
  | v :: x, acc, rest, ok, h => by
    have hv := h v (by simp)
    have e : bytesOf (v :: x) ++ rest = smallN v.toNat ++ (bytesOf x ++ rest) := by rw [bytesOf, List.flatMap_cons, List.append_assoc]; rfl
    rw [List.length_cons, needsD, e, numD_small hv.1 hv.2 (by decide)]
    have := needsD_small x (acc ++ [v]) rest ok (fun v hv => h v (List.mem_cons_of_mem _ hv))
    rw [this]
    simp
theorem nodeD_small (x : NodeT) (rest : List Int) (ok : Bool) (h0 : x.f0.length ≤ 12) (h : ∀ v ∈ x.f0, 0 ≤ v ∧ v ≤ 12) (h1 : 0 ≤ x.f1 ∧ x.f1 ≤ 5) (h2 : 0 ≤ x.f2 ∧ x.f2 ≤ 1048576) : nodeD (bytesOf (numsOf x) ++ rest) ok = (x, rest, ok) := by
  have e : bytesOf (numsOf x) ++ rest = smallN ((x.f0.length : Int)).toNat ++ (bytesOf x.f0 ++ (smallN x.f1.toNat ++ (smallN x.f2.toNat ++ rest))) := by rw [bytesOf_nums]; simp only [List.append_assoc, Int.toNat_natCast]
  unfold nodeD
  rw [e, numD_small (by omega) (by omega) (by decide)]
  dsimp only
  rw [Int.toNat_natCast, needsD_small x.f0 [] _ ok h]
  dsimp only
  rw [numD_small h1.1 h1.2 (by decide)]
  dsimp only
  rw [numD_small h2.1 h2.2 (by decide)]
  rfl
theorem nodesD_small : ∀ (l acc : List NodeT) (rest : List Int) (ok : Bool), (∀ x ∈ l, x.f0.length ≤ 12 ∧ (∀ v ∈ x.f0, 0 ≤ v ∧ v ≤ 12) ∧ (0 ≤ x.f1 ∧ x.f1 ≤ 5) ∧ (0 ≤ x.f2 ∧ x.f2 ≤ 1048576)) → nodesD l.length acc ((l.flatMap fun x => bytesOf (numsOf x)) ++ rest) ok = (acc ++ l, rest, ok)
  | [], acc, rest, ok, _ => by rw [List.append_nil]; rfl
  | x :: l, acc, rest, ok, h => by
    obtain ⟨h0, h1, h2, h3⟩ := h x (by simp)
    have e : ((x :: l).flatMap fun x => bytesOf (numsOf x)) ++ rest = bytesOf (numsOf x) ++ ((l.flatMap fun x => bytesOf (numsOf x)) ++ rest) := by rw [List.flatMap_cons, List.append_assoc]
    rw [List.length_cons, nodesD, e, nodeD_small x _ ok h0 h1 h2 h3]
    have := nodesD_small l (acc ++ [x]) rest ok (fun x hx => h x (List.mem_cons_of_mem _ hx))
    rw [this]
    simp
theorem may_nodes {l : List NodeT} (h : mayS l = true) : ∀ x ∈ l, x.f0.length ≤ 12 ∧ (∀ v ∈ x.f0, 0 ≤ v ∧ v ≤ 12) ∧ (0 ≤ x.f1 ∧ x.f1 ≤ 5) ∧ (0 ≤ x.f2 ∧ x.f2 ≤ 1048576) := by
  obtain ⟨p1, p2, p3, p4⟩ := may_parts h
  intro x hx
  obtain ⟨i, hi, rfl⟩ := List.getElem_of_mem hx
  have hb := shapeFrom_at _ l 0 p3 i hi
  simp only [nodeOk, Bool.and_eq_true] at hb
  have hbo := of_decide_eq_true hb.1
  have hnd := shape_needs l p3 i hi
  rw [needs_at l i hi] at hnd
  exact ⟨(shape_bounds l p3 p2 i hi).1, fun v hv => by have := hnd v hv; omega, by omega, by omega⟩
theorem written_len {l : List NodeT} (h : mayS l = true) : (writtenS l).length ≤ 3000 := by
  obtain ⟨p1, p2, p3, p4⟩ := may_parts h
  have hn := may_nodes h
  have key : ∀ q : List NodeT, (∀ x ∈ q, x.f0.length ≤ 12 ∧ (∀ v ∈ x.f0, 0 ≤ v ∧ v ≤ 12) ∧ (0 ≤ x.f1 ∧ x.f1 ≤ 5) ∧ (0 ≤ x.f2 ∧ x.f2 ≤ 1048576)) → (q.flatMap fun x => bytesOf (numsOf x)).length ≤ 150 * q.length := by
    intro q
    induction q with
    | nil => intro _; exact Nat.le_refl 0
    | cons x q ih =>
      intro hq
      obtain ⟨h0, h1, h2, h3⟩ := hq x (by simp)
      have := ih (fun x hx => hq x (List.mem_cons_of_mem _ hx))
      have hb := bytesOf_len (numsOf x) (fun v hv => by
        simp only [numsOf, List.flatten_cons, List.flatten_nil, List.append_nil, List.mem_append, List.mem_cons, List.not_mem_nil, or_false] at hv
        rcases hv with rfl | hv | rfl | rfl
        · omega
        · have := h1 v hv
          omega
        · omega
        · omega)
      have hl := numsOf_length x
      rw [List.flatMap_cons, List.length_append, List.length_cons]
      omega
  have := key l hn
  have hs := small_len (v := (l.length : Int)) (by omega)
  rw [Int.toNat_natCast] at hs
  unfold writtenS
  rw [List.length_append]
  omega
theorem read_written {l : List NodeT} (h : mayS l = true) (rest : List Int) (hr : rest.length ≤ 1000) : readD (writtenS l ++ rest) = if rest = [] then (l, 0) else ([], 8) := by
  have hw := written_len h
  have hp := may_parts h
  unfold readD
  rw [if_neg (by rw [List.length_append]; omega)]
  have e : writtenS l ++ rest = smallN ((l.length : Int)).toNat ++ ((l.flatMap fun x => bytesOf (numsOf x)) ++ rest) := by unfold writtenS; rw [List.append_assoc, Int.toNat_natCast]
  rw [e, numD_small (by omega) (by omega) (by decide)]
  dsimp only
  rw [Int.toNat_natCast, nodesD_small l [] rest true (may_nodes h)]
  dsimp only
  rw [List.nil_append, show checkS l = 0 from (check_zero l).mpr h]
  by_cases hn : rest = []
  · subst hn
    rfl
  · rw [if_neg hn, if_pos (Or.inr (Or.inl (List.length_pos_iff.mpr hn)))]
theorem spec_open {w : World} {x : S25} {cs : Array Value} (h : k25.K w x cs.toList) : ∃ A c, cs = #[.slice A x.f0.length c] ∧ x.f0.length ≤ c ∧ Kd.C k40 w A x.f0.length x.f0 := by
  obtain ⟨A, c, hcs, hle, hC⟩ := h
  refine ⟨A, c, ?_, hle, hC⟩
  cases cs
  simpa using hcs
theorem sameS_refl : ∀ l : List NodeT, sameS l l = true
  | [] => rfl
  | x :: l => by
    rw [sameS, sameS_refl l]
    simp [sameN]
theorem written_bytes (l : List NodeT) : ∀ x ∈ writtenS l, 0 ≤ x ∧ x ≤ 255 := by
  intro x hx
  have hb : ∀ c : List Int, ∀ x ∈ bytesOf c, 0 ≤ x ∧ x ≤ 255 := fun c x hx => by
    obtain ⟨v, _, hv⟩ := List.mem_flatMap.mp hx
    exact smallN_bytes _ x hv
  rcases List.mem_append.mp hx with hx | hx
  · exact smallN_bytes _ x hx
  · obtain ⟨v, _, hv⟩ := List.mem_flatMap.mp hx
    exact hb _ x hv
theorem Read_f {l : List Int} {r : List NodeT × Int} (hb : ∀ x ∈ l, 0 ≤ x ∧ x ≤ 255) (hl : l.length ≤ 140737488351232) (h : readD l = r) : Ev (fun _ => dag_Read.f l) r := by
  have e : dag_Read.f l = some r := by
    unfold dag_Read.f
    rw [if_pos ⟨hb, hl⟩, h]
  rw [e]
  exact Ev.now _
theorem DagBack_ev (l : List NodeT) : Ev (fun k => millhandlaw23_DagBack.f k l) true := by
  unfold millhandlaw23_DagBack.f
  refine Ev.bind dagAlive_ev (Ev.bind (great_ev l) ?_)
  cases hg : greatS l with
  | true => exact ev_pos rfl (Ev.step (fun _ => millhandlaw23_DagBack.j0.eq_2 ..) (ev_pos rfl (Ev.now _)))
  | false =>
    obtain ⟨hf, h60⟩ := great_fit hg
    refine ev_neg (by decide) (Ev.step (fun _ => millhandlaw23_DagBack.j0.eq_2 ..) (ev_neg (by decide) (Ev.bind (Write_ev l hf) ?_)))
    unfold writeS
    by_cases h : checkS l = 0
    · rw [if_pos h]
      have hm := (check_zero l).mp h
      have hwl := written_len hm
      have r1 : readD (writtenS l) = (l, 0) := by
        have := read_written hm [] (by simp)
        rw [List.append_nil, if_pos rfl] at this
        exact this
      have r2 : readD (writtenS l ++ [0]) = ([], 8) := by
        have := read_written hm [0] (by simp)
        rw [if_neg (by simp)] at this
        exact this
      refine ev_pos rfl (Ev.bind (Read_f (written_bytes l) (by show (writtenS l).length ≤ _; omega) r1) (ev_pos (by show (writtenS l).length < _; omega) (Ev.bind (Read_f (fun x hx => ?_) (by show (writtenS l ++ [0]).length ≤ _; rw [List.length_append, List.length_singleton]; omega) r2) (ev_pos rfl (Ev.bind (same_ev l l hf) ?_)))))
      · rcases List.mem_append.mp hx with hx | hx
        · exact written_bytes l x hx
        · rw [List.mem_singleton.mp hx]; decide
      · rw [sameS_refl]
        exact ev_pos rfl (ev_some rfl)
    · rw [if_neg h]
      exact ev_neg h (ev_some rfl)
theorem DagBack_walk (w : World) (x0 : S25) (cs0 : Array Value) (r0 : k25.K w x0 cs0.toList) (g0_ : g25 x0) :
    Calls Try.prog 8 #[.agg cs0] w fun e w' => e = .returned (.bool true) ∧ Below w.heap.size w w' := by
  obtain ⟨A, c, rfl, hle, hC⟩ := spec_open r0
  obtain ⟨k, h⟩ := (DagBack_ev x0.f0).rounds
  exact millhandlaw23_DagBack.calls k A c x0.f0 true w hC hle h
end Go.Proofs.Ytoplhlacdjlidaa.R

/- What code's laws have in common. -/
import Derived.Test.YtagdmgjdhbmaiaaDoorRx5
import Derived.Test.YtagdmgjdhbmaiaaDoorRKMade
namespace Go.Proofs.YtagdmgjdhbmaiaaDoor.R
open Go.RowKit Go.Proofs.YtagdmgjdhbmaiaaDoorW.PrintWords Go.Proofs.YtagdmgjdhbmaiaaDoorW.PrintLast Go.Proofs.YtagdmgjdhbmaiaaDoorW.PrintMore Go.Proofs.YtagdmgjdhbmaiaaDoor.Plain
set_option linter.unusedVariables false
set_option linter.unusedSimpArgs false
theorem codeAlive_ev : Ev (fun k => millhandlaw01_alive.f k) true := Ev.of millhandlaw01_alive.mono (k := 60) (by decide +kernel)
theorem heavy_l0 (l : List PartT) : ∀ (d i : Nat) (x : Int), i + d = 100 → ∃ b, Ev (fun k => millhandref01_Heavy.l0 k l x (i : Int)) b ∧ (b = false → l.length ≤ 60)
  | d, i, x, h => by
    have fin : ∃ b, Ev (fun _ => if (l.length : Int) > 60 then some true else some (decide (x > 100000))) b ∧ (b = false → l.length ≤ 60) := by
      by_cases h6 : (l.length : Int) > 60
      · exact ⟨true, ev_pos h6 (Ev.now _), fun e => absurd e (by decide)⟩
      · exact ⟨_, ev_neg h6 (Ev.now _), fun _ => by omega⟩
    by_cases h1 : (i : Int) < (l.length : Int)
    · by_cases h2 : (i : Int) < 100
      · match d, h with
        | 0, h => exact absurd h2 (by omega)
        | d + 1, h =>
          obtain ⟨b, hb, hc⟩ := heavy_l0 l d (i + 1) (wrap64 (x + (mn (((rd_T50 l (i : Int)).f2).size : Int) 100000))) (by omega)
          refine ⟨b, Ev.step (fun _ => millhandref01_Heavy.l0.eq_2 ..) (ev_pos h1 (ev_pos h2 (ev_pos (by omega) ?_))), hc⟩
          rw [w64 (i := (i : Int) + 1) (by omega) (by omega)]
          exact hb
      · obtain ⟨b, hb, hc⟩ := fin
        exact ⟨b, Ev.step (fun _ => millhandref01_Heavy.l0.eq_2 ..) (ev_pos h1 (ev_neg h2 hb)), hc⟩
    · obtain ⟨b, hb, hc⟩ := fin
      exact ⟨b, Ev.step (fun _ => millhandref01_Heavy.l0.eq_2 ..) (ev_neg h1 hb), hc⟩
theorem heavy_ev (l : List PartT) : ∃ b, Ev (fun k => millhandref01_Heavy.f k l) b ∧ (b = false → l.length ≤ 60) := heavy_l0 l 100 0 0 rfl
theorem same_refl (l : List PartT) (hl : l.length ≤ 4398046511104) : Ev (fun k => millhandref01_SameParts.f k l l) true := by
  have go : ∀ (d i : Nat), i + d = l.length → Ev (fun k => millhandref01_SameParts.l0 k l l (i : Int)) true := by
    intro d
    induction d with
    | zero => exact fun i h => Ev.step (fun _ => millhandref01_SameParts.l0.eq_2 ..) (ev_neg (by omega) (Ev.now _))
    | succ d ih =>
      intro i h
      refine Ev.step (fun _ => millhandref01_SameParts.l0.eq_2 ..) (ev_pos (by omega) (ev_pos (by omega) (ev_pos (by omega) (ev_neg (by simp) ?_))))
      rw [w64 (by omega) (by omega)]
      exact ih (i + 1) (by omega)
  unfold millhandref01_SameParts.f
  exact ev_pos rfl (go l.length 0 (by omega))
theorem ok_of (p : PartT) (hb : badP p = false) (h0 : 0 ≤ p.f1) (h1 : p.f1 < 18446744073709551616) : okP p := by
  unfold badP at hb
  unfold okP
  by_cases ht : p.f0 = true
  · rw [if_pos ht] at hb ⊢
    simpa using hb
  · rw [if_neg ht] at hb ⊢
    refine ⟨?_, h0, h1⟩
    have : p.f2.data.toList = [] := by
      rw [ByteArray.toList_eq] at hb
      simpa using hb
    rw [← ba_eta p.f2, this]
/-- A list that is a key. -/
theorem keyS_inv (l : List PartT) (hg : ∀ p ∈ l, 0 ≤ p.f1 ∧ p.f1 < 18446744073709551616) (h : (keyS l).2 = 0) :
    1 ≤ l.length ∧ l.length ≤ 8 ∧ (∀ p ∈ l, okP p) ∧ (keyU l).length ≤ 64 ∧ keyS l = (⟨(keyU l).toArray⟩, 0) := by
  unfold keyS at h ⊢
  by_cases h1 : l.length = 0 ∨ 8 < l.length
  · rw [if_pos h1] at h
    exact absurd h (by show ¬ (4 : Int) = 0; omega)
  · rw [if_neg h1] at h ⊢
    by_cases h2 : l.any badP = true
    · rw [if_pos h2] at h
      exact absurd h (by show ¬ (8 : Int) = 0; omega)
    · rw [if_neg h2] at h ⊢
      by_cases h3 : l.any bigP = true
      · rw [if_pos h3] at h
        exact absurd h (by show ¬ (3 : Int) = 0; omega)
      · rw [if_neg h3] at h ⊢
        have hok : ∀ p ∈ l, okP p := by
          intro p hp
          refine ok_of p ?_ (hg p hp).1 (hg p hp).2
          cases hb : badP p with
          | false => rfl
          | true => exact absurd (List.any_eq_true.mpr ⟨p, hp, hb⟩) h2
        have e := keyL_U l (fun p hp => (hg p hp).1)
        unfold keyEnd at h ⊢
        rw [e, List.length_map, strOfNums_map] at h ⊢
        by_cases h4 : 64 < (keyU l).length
        · rw [if_pos h4] at h
          exact absurd h (by show ¬ (3 : Int) = 0; omega)
        · rw [if_neg h4]
          exact ⟨by omega, by omega, hok, by omega, rfl⟩
theorem size_key : ∀ (l : List PartT), (∀ p ∈ l, okP p) → ∀ p ∈ l, p.f2.size ≤ (keyU l).length
  | [], _, p, hp => by simp at hp
  | q :: l, hok, p, hp => by
    have e : keyU (q :: l) = partU q ++ keyU l := by simp only [keyU, List.flatMap_cons]
    rw [e, List.length_append]
    rcases List.mem_cons.mp hp with rfl | hp
    · have h1 := hok p (by simp)
      unfold okP at h1
      unfold partU
      by_cases ht : p.f0 = true
      · rw [if_pos ht]
        have h2 := Esc.esc_length p.f2.data.toList
        have h3 := Lib.size_eq p.f2
        simp only [List.length_cons, List.length_append, List.length_nil]
        omega
      · rw [if_neg ht] at h1
        rw [h1.1]
        exact Nat.zero_le _
    · have := size_key l (fun z hz => hok z (List.mem_cons_of_mem _ hz)) p hp
      omega
theorem partsB_bad : ∀ (f : Nat) (x : List UInt8) (acc : List PartT), (partsB f x acc).2 ≠ 0 → (partsB f x acc).1 = []
  | 0, _, _, _ => rfl
  | f + 1, x, acc, h => by
    rw [partsB] at h ⊢
    by_cases h0 : x = []
    · rw [if_pos h0] at h
      exact absurd rfl h
    · rw [if_neg h0] at h ⊢
      by_cases h8 : acc.length = 8
      · rw [if_pos h8]
      · rw [if_neg h8] at h ⊢
        cases ho : oneS x with
        | none => rfl
        | some pq =>
          obtain ⟨p, q⟩ := pq
          rw [ho] at h
          exact partsB_bad f q _ h
theorem parts_bad (s : ByteArray) (h : (partsS s).2 ≠ 0) : (partsS s).1 = [] := by
  unfold partsS at *
  by_cases h0 : s.size = 0 ∨ 64 < s.size
  · rw [if_pos h0]
  · rw [if_neg h0] at h ⊢
    exact partsB_bad _ _ _ h
theorem parts_fine (s : ByteArray) (h : (partsS s).2 = 0) : keyS (partsS s).1 = (s, 0) := by
  have hz := Lib.size_eq s
  by_cases hb : s.size = 0 ∨ 64 < s.size
  · rw [show partsS s = ([], 3) by unfold partsS; rw [if_pos hb]] at h
    exact absurd h (by decide)
  · have e : partsS s = partsB 9 s.data.toList [] := by unfold partsS; rw [if_neg hb]
    have e2 : partsB 9 s.data.toList [] = ((partsS s).1, 0) := by rw [← e, ← h]
    obtain ⟨m, h1, h2, h3, h4⟩ := key_partsB 9 _ _ _ e2 (by simp)
    rw [List.nil_append] at h1
    rw [h1] at h4 ⊢
    have hm : m ≠ [] := by
      rintro rfl
      rw [h2] at hz
      have e0 : (keyU []).length = 0 := rfl
      omega
    have hk : (keyU m).length ≤ 64 := by rw [← h2, ← hz]; omega
    rw [keyS_ok m (List.length_pos_iff.mpr hm) h4 h3 (fun p hp => by have := size_key m h3 p hp; omega) hk, ← h2]
end Go.Proofs.YtagdmgjdhbmaiaaDoor.R

/- Keys of kinds. -/
import Derived.Test.YtagdmgjdhbmaiaaDoorRx20
import Derived.Test.YtagdmgjdhbmaiaaDoorRKRound
namespace Go.Proofs.YtagdmgjdhbmaiaaDoor.R
open Go.RowKit Go.Proofs.YtagdmgjdhbmaiaaDoorW.PrintWords Go.Proofs.YtagdmgjdhbmaiaaDoorW.PrintLast Go.Proofs.YtagdmgjdhbmaiaaDoorW.PrintMore Go.Proofs.YtagdmgjdhbmaiaaDoor.Plain
set_option linter.unusedVariables false

/-! ### keys of kinds -/
def letU (kind : Int) : List UInt8 := (if kind = 1 then [101] else if kind = 2 then [104] else if kind = 3 then [107] else [114])
def letP (kind : Int) : PartT := ⟨true, 0, ⟨(letU kind).toArray⟩⟩
theorem letter_eq (kind : Int) (h : 1 ≤ kind ∧ kind ≤ 4) : keys_letter.f kind = some (true, 0, (letP kind).f2) := by
  obtain rfl | rfl | rfl | rfl : kind = 1 ∨ kind = 2 ∨ kind = 3 ∨ kind = 4 := by omega
  all_goals decide +kernel
def madeS (kind : Int) (l : List PartT) : ByteArray := (keyS (letP kind :: l)).1
theorem made_ev (kind : Int) (h : 1 ≤ kind ∧ kind ≤ 4) (l : List PartT) (hl : l.length ≤ 8) : Ev (fun k => keys_made.f k kind l) (madeS kind l) := by
  unfold keys_made.f
  simp only [letter_eq kind h, Option.bind_some]
  refine ev_pos (by simp; omega) (Ev.bind (code_Key_ev _) (Ev.now _))
def numP (n : Int) : PartT := ⟨false, n, ⟨#[]⟩⟩
def runS (n : Int) : ByteArray × Int := if n < 0 ∨ 1099511627776 < n then (⟨#[]⟩, 2) else (madeS 4 [numP n], 0)
def eventS (n : Int) : ByteArray × Int := if n < 1 ∨ 1099511627776 < n then (⟨#[]⟩, 2) else (madeS 1 [numP n], 0)
def nameS (s : ByteArray) : ByteArray × Int := if s.size < 1 ∨ 24 < s.size then (⟨#[]⟩, 3) else (madeS 3 [⟨true, 0, s⟩], 0)
theorem run_ev (n : Int) : Ev (fun k => keys_Run.f k n) (runS n) := by
  unfold keys_Run.f runS
  by_cases h0 : n < 0
  · rw [if_pos (Or.inl h0)]; exact ev_pos h0 (Ev.now _)
  · by_cases h1 : 1099511627776 < n
    · rw [if_pos (Or.inr h1)]; exact ev_neg h0 (ev_pos h1 (Ev.now _))
    · rw [if_neg (by omega), u64w_in (by omega) (by omega)]
      exact ev_neg h0 (ev_neg (by omega) (Ev.bind (made_ev 4 (by omega) _ (by simp)) (Ev.now _)))
theorem event_ev (n : Int) : Ev (fun k => keys_Event.f k n) (eventS n) := by
  unfold keys_Event.f eventS
  by_cases h0 : n < 1
  · rw [if_pos (Or.inl h0)]; exact ev_pos h0 (Ev.now _)
  · by_cases h1 : 1099511627776 < n
    · rw [if_pos (Or.inr h1)]; exact ev_neg h0 (ev_pos h1 (Ev.now _))
    · rw [if_neg (by omega), u64w_in (by omega) (by omega)]
      exact ev_neg h0 (ev_neg (by omega) (Ev.bind (made_ev 1 (by omega) _ (by simp)) (Ev.now _)))
theorem name_ev (s : ByteArray) : Ev (fun k => keys_Name.f k s) (nameS s) := by
  unfold keys_Name.f nameS
  by_cases h0 : s.size < 1
  · rw [if_pos (Or.inl h0)]; exact ev_pos (by omega) (Ev.now _)
  · by_cases h1 : 24 < s.size
    · rw [if_pos (Or.inr h1)]; exact ev_neg (by omega) (ev_pos (by omega) (Ev.now _))
    · rw [if_neg (by omega)]
      exact ev_neg (by omega) (ev_neg (by omega) (Ev.bind (made_ev 3 (by omega) _ (by simp)) (Ev.now _)))
theorem ok_not_bad (p : PartT) (h : okP p) : badP p = false := by
  unfold okP at h
  unfold badP
  by_cases ht : p.f0 = true
  · rw [if_pos ht] at h ⊢
    simp [h]
  · rw [if_neg ht] at h ⊢
    rw [h.1, ByteArray.toList_eq]
    rfl
theorem ok_nonneg (p : PartT) (h : okP p) : 0 ≤ p.f1 := by
  unfold okP at h
  by_cases ht : p.f0 = true
  · rw [if_pos ht] at h; omega
  · rw [if_neg ht] at h; exact h.2.1
theorem keyS_ok (l : List PartT) (h1 : 1 ≤ l.length) (h8 : l.length ≤ 8) (hok : ∀ p ∈ l, okP p) (hb : ∀ p ∈ l, p.f2.size ≤ 64) (hz : (keyU l).length ≤ 64) : keyS l = (⟨(keyU l).toArray⟩, 0) := by
  have e := keyL_U l (fun p hp => ok_nonneg p (hok p hp))
  unfold keyS
  rw [if_neg (by omega), if_neg (by simp only [List.any_eq_true, not_exists, not_and]; intro p hp; rw [ok_not_bad p (hok p hp)]; decide), if_neg (by simp only [List.any_eq_true, not_exists, not_and]; intro p hp; rw [show bigP p = false from decide_eq_false (by have := hb p hp; omega)]; decide)]
  unfold keyEnd
  rw [e, List.length_map, if_neg (by omega), strOfNums_map]
theorem parts_key (l : List PartT) (h1 : 1 ≤ l.length) (h8 : l.length ≤ 8) (hok : ∀ p ∈ l, okP p) (hz : (keyU l).length ≤ 64) : partsS ⟨(keyU l).toArray⟩ = (l, 0) := by
  have hs : (⟨(keyU l).toArray⟩ : ByteArray).size = (keyU l).length := by rw [Lib.size_eq]
  have hn : keyU l ≠ [] := by
    cases l with
    | nil => simp at h1
    | cons p l => simp only [keyU, List.flatMap_cons]; intro e; exact partU_ne p (List.append_eq_nil_iff.mp e).1
  have hp := List.length_pos_iff.mpr hn
  unfold partsS
  rw [if_neg (by omega)]
  have := partsB_key l 9 [] (by simp) (by simpa using h8) hok
  simpa using this
end Go.Proofs.YtagdmgjdhbmaiaaDoor.R

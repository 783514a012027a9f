/- What begins with a text is not below it, and below what is above it. -/
import Derived.Test.YtagdmgjdhbmaiaaDoorRx12
import Derived.Test.YtagdmgjdhbmaiaaDoorRx11
import Derived.Test.YtagdmgjdhbmaiaaDoorRKCm
import Derived.Test.YtagdmgjdhbmaiaaDoorRKOrd
namespace Go.Proofs.YtagdmgjdhbmaiaaDoor.R
open Go.RowKit Go.Proofs.YtagdmgjdhbmaiaaDoorW.PrintWords Go.Proofs.YtagdmgjdhbmaiaaDoorW.PrintLast Go.Proofs.YtagdmgjdhbmaiaaDoorW.PrintMore Go.Proofs.YtagdmgjdhbmaiaaDoor.Plain
set_option linter.unusedVariables false
set_option linter.unusedSimpArgs false
theorem above_shape (s : ByteArray) : (Esc.aboveS s = (⟨#[]⟩, false) ∧ ∀ x ∈ s.data.toList, x = 255) ∨
    (∃ q c R, s.data.toList = q ++ c :: R ∧ (∀ x ∈ R, x = 255) ∧ c ≠ 255 ∧ Esc.aboveS s = (⟨(q ++ [c + 1]).toArray⟩, true)) := by
  unfold Esc.aboveS
  have hall : ∀ x ∈ (s.data.toList.reverse.takeWhile (· == 255)), x = 255 := by
    intro x hx
    have := List.all_takeWhile (p := (· == (255 : UInt8))) (l := s.data.toList.reverse)
    rw [List.all_eq_true] at this
    simpa using this x hx
  have hsplit := List.takeWhile_append_dropWhile (p := (· == (255 : UInt8))) (l := s.data.toList.reverse)
  cases hd : s.data.toList.reverse.dropWhile (· == 255) with
  | nil =>
    left
    rw [hd, List.append_nil] at hsplit
    refine ⟨rfl, fun x hx => hall x ?_⟩
    rw [hsplit]
    exact List.mem_reverse.mpr hx
  | cons c l =>
    right
    rw [hd] at hsplit
    refine ⟨l.reverse, c, (s.data.toList.reverse.takeWhile (· == 255)).reverse, ?_, fun x hx => hall x (List.mem_reverse.mp hx), ?_, ?_⟩
    · have := congrArg List.reverse hsplit
      rw [List.reverse_append, List.reverse_reverse, List.reverse_cons, List.append_assoc] at this
      exact this.symm
    · have := List.head?_dropWhile_not (p := (· == (255 : UInt8))) (l := s.data.toList.reverse)
      rw [hd] at this
      simpa using this
    · simp
theorem all255 : ∀ (R t : List UInt8), (∀ x ∈ R, x = 255) → Op.bytesLess t R = false → ∃ u, t = R ++ u
  | [], t, _, _ => ⟨t, rfl⟩
  | x :: R, [], _, h => by simp [Op.bytesLess] at h
  | x :: R, y :: t, hR, h => by
    have hx := hR x (by simp)
    subst hx
    have hy := y.toNat_lt
    rcases u8_tri y 255 with g | rfl | g
    · rw [less_head g] at h
      exact absurd h (by decide)
    · rw [less_cons, decide_eq_false (u8_irr _)] at h
      simp only [BEq.rfl, Bool.true_and, Bool.false_or] at h
      obtain ⟨u, rfl⟩ := all255 R t (fun z hz => hR z (List.mem_cons_of_mem _ hz)) h
      exact ⟨u, rfl⟩
    · rw [UInt8.lt_iff_toNat_lt] at g
      have e : (255 : UInt8).toNat = 255 := rfl
      omega
theorem succ_lt (c : UInt8) (h : c ≠ 255) : c < c + 1 ∧ (c + 1).toNat = c.toNat + 1 := by
  have h1 := c.toNat_lt
  have h2 : c.toNat ≠ 255 := fun e => h (UInt8.toNat_inj.mp e)
  have h3 : (c + 1).toNat = c.toNat + 1 := by
    rw [UInt8.toNat_add]
    have : (1 : UInt8).toNat = 1 := rfl
    omega
  refine ⟨?_, h3⟩
  rw [UInt8.lt_iff_toNat_lt]
  omega
theorem above_only : ∀ (q : List UInt8) (c : UInt8) (R t : List UInt8), (∀ x ∈ R, x = 255) → c ≠ 255 → Op.bytesLess t (q ++ c :: R) = false → Op.bytesLess t (q ++ [c + 1]) = true → ∃ u, t = q ++ c :: R ++ u
  | [], c, R, [], hR, hc, h1, h2 => by simp [Op.bytesLess] at h1
  | [], c, R, y :: t, hR, hc, h1, h2 => by
    obtain ⟨hc1, hc2⟩ := succ_lt c hc
    rw [List.nil_append] at h1 h2
    have hy : y = c := by
      rcases u8_tri y c with g | g | g
      · rw [less_head g] at h1
        exact absurd h1 (by decide)
      · exact g
      · rw [less_cons] at h2
        rw [UInt8.lt_iff_toNat_lt] at g
        have l : Op.bytesLess t [] = false := by cases t <;> rfl
        rw [l, Bool.and_false, Bool.or_false, decide_eq_true_iff, UInt8.lt_iff_toNat_lt] at h2
        omega
    subst hy
    rw [less_cons, decide_eq_false (u8_irr _)] at h1
    simp only [BEq.rfl, Bool.true_and, Bool.false_or] at h1
    obtain ⟨u, rfl⟩ := all255 R t hR h1
    exact ⟨u, rfl⟩
  | a :: q, c, R, [], hR, hc, h1, h2 => by simp [Op.bytesLess] at h1
  | a :: q, c, R, y :: t, hR, hc, h1, h2 => by
    rw [List.cons_append] at h1 h2
    rcases u8_tri y a with g | rfl | g
    · rw [less_head g] at h1
      exact absurd h1 (by decide)
    · rw [less_cons, decide_eq_false (u8_irr _)] at h1 h2
      simp only [BEq.rfl, Bool.true_and, Bool.false_or] at h1 h2
      obtain ⟨u, rfl⟩ := above_only q c R t hR hc h1 h2
      exact ⟨u, rfl⟩
    · rw [less_head' g] at h2
      exact absurd h2 (by decide)
/-- Does a text begin with another one? -/
def beginsB (s t : ByteArray) : Bool := decide (t.data.toList.take s.size = s.data.toList)
theorem begins_iff (s t : ByteArray) : beginsB s t = true ↔ ∃ u, t.data.toList = s.data.toList ++ u := by
  have hz := Lib.size_eq s
  unfold beginsB
  rw [decide_eq_true_iff]
  constructor
  · intro h
    refine ⟨t.data.toList.drop s.size, ?_⟩
    have := List.take_append_drop s.size t.data.toList
    rw [h] at this
    exact this.symm
  · rintro ⟨u, h⟩
    rw [h, hz, List.take_left]
theorem less_begin (s u : List UInt8) : Op.bytesLess (s ++ u) s = false := by
  have := less_same s u []
  rw [List.append_nil] at this
  rw [this]
  cases u <;> rfl
theorem above_law (s t : ByteArray) (L1 : Bool) (h1 : Op.bytesLess t.toList s.toList = L1) :
    ((Esc.aboveS s).2 = false → beginsB s t = !L1) ∧ ((Esc.aboveS s).2 = true → beginsB s t = (!L1 && Op.bytesLess t.toList (Esc.aboveS s).1.toList) ∧ Op.bytesLess s.toList (Esc.aboveS s).1.toList = true ∧ (Esc.aboveS s).1.size ≤ s.size) := by
  have hz := Lib.size_eq s
  rw [ByteArray.toList_eq, ByteArray.toList_eq] at h1
  rw [ByteArray.toList_eq, ByteArray.toList_eq, ByteArray.toList_eq]
  rcases above_shape s with ⟨ha, hR⟩ | ⟨q, c, R, hs, hR, hc, ha⟩
  · rw [ha]
    refine ⟨fun _ => ?_, fun h => absurd h (by decide)⟩
    rw [Bool.eq_iff_iff, begins_iff]
    constructor
    · rintro ⟨u, h⟩
      rw [h, less_begin] at h1
      rw [← h1]
      rfl
    · intro h
      cases L1 with
      | true => exact absurd h (by decide)
      | false => exact all255 _ _ hR h1
  · rw [ha]
    obtain ⟨hc1, hc2⟩ := succ_lt c hc
    refine ⟨fun h => absurd h (show ¬ (true = false) by decide), fun _ => ⟨?_, ?_, ?_⟩⟩
    · show beginsB s t = (!L1 && Op.bytesLess t.data.toList (q ++ [c + 1]))
      rw [Bool.eq_iff_iff, begins_iff, Bool.and_eq_true]
      rw [hs] at h1 ⊢
      constructor
      · rintro ⟨u, h⟩
        rw [h, less_begin] at h1
        refine ⟨by rw [← h1]; rfl, ?_⟩
        rw [h, List.append_assoc, less_same]
        exact less_head hc1 _ _
      · rintro ⟨h2, h3⟩
        cases L1 with
        | true => exact absurd h2 (by decide)
        | false => exact above_only q c R _ hR hc h1 h3
    · show Op.bytesLess s.data.toList (q ++ [c + 1]) = true
      rw [hs, less_same]
      exact less_head hc1 _ _
    · rw [Lib.size_eq, hz, hs]
      simp
theorem CodeAbove_ev (s t : ByteArray) : Ev (fun k => millhandlaw01_CodeAbove.f k s t) true := by
  unfold millhandlaw01_CodeAbove.f
  refine Ev.bind codeAlive_ev (ev_pos rfl ?_)
  by_cases h5 : (s.size : Int) > 10000
  · exact ev_pos h5 (Ev.now _)
  · refine ev_neg h5 ?_
    by_cases h6 : (t.size : Int) > 10000
    · exact ev_pos h6 (Ev.now _)
    · refine ev_neg h6 ?_
      have ha : code_Above.f s = some (Esc.aboveS s) := by
        unfold code_Above.f
        rw [if_pos (by omega)]
      simp only [ha, Option.bind_some]
      obtain ⟨L1, h1⟩ : ∃ b, Op.bytesLess t.toList s.toList = b := ⟨_, rfl⟩
      obtain ⟨l1, l2⟩ := above_law s t L1 h1
      obtain ⟨L2, h2⟩ : ∃ b, Op.bytesLess t.toList (Esc.aboveS s).1.toList = b := ⟨_, rfl⟩
      rw [h2] at l2
      have fin : ∀ b : Bool, beginsB s t = b → Ev (fun _ : Nat => if L1 = true then (if (b == false) = true then (if (Esc.aboveS s).2 = true then (if (Op.bytesLess s.toList (Esc.aboveS s).1.toList) = true then (some (decide (((Esc.aboveS s).1.size : Int) ≤ (s.size : Int)))) else (some false)) else (some true)) else (some false))
          else (if (Esc.aboveS s).2 = true then (if (b == L2) = true then (if (Op.bytesLess s.toList (Esc.aboveS s).1.toList) = true then (some (decide (((Esc.aboveS s).1.size : Int) ≤ (s.size : Int)))) else (some false)) else (some false)) else (if (b == true) = true then (some true) else (some false)))) true := by
        intro b hb
        cases hi : (Esc.aboveS s).2 with
        | true =>
          obtain ⟨k1, k2, k3⟩ := l2 hi
          rw [hb] at k1
          have k4 : decide (((Esc.aboveS s).1.size : Int) ≤ (s.size : Int)) = true := decide_eq_true (by omega)
          rw [k2, k4, k1]
          cases L1 <;> cases L2 <;> exact Ev.now _
        | false =>
          have k1 := l1 hi
          rw [hb] at k1
          rw [k1]
          cases L1 <;> exact Ev.now _
      rw [h1, h2]
      by_cases hz : (t.size : Int) ≥ (s.size : Int)
      · refine ev_pos hz (ev_pos (by omega) (ev_pos (by omega) ?_))
        have hb : ((t.extract 0 ((s.size : Int)).toNat).toList == s.toList) = beginsB s t := by
          rw [ByteArray.toList_eq, ByteArray.toList_eq, Lib.extract_data, Int.toNat_natCast]
          unfold beginsB
          rw [Bool.eq_iff_iff]
          simp
        rw [hb]
        exact fin _ rfl
      · refine ev_neg hz ?_
        refine fin false ?_
        rw [Bool.eq_false_iff, ne_eq, begins_iff]
        rintro ⟨u, h⟩
        have e1 := Lib.size_eq s
        have e2 := Lib.size_eq t
        rw [h, List.length_append] at e2
        omega
theorem CodeAbove_walk (w : World) (a0 : ByteArray) (g0_ : a0.size ≤ 140737488351232) (a1 : ByteArray) (g1_ : a1.size ≤ 140737488351232) :
    Calls Tryd.prog 6 #[.string a0, .string a1] w fun e w' => e = .returned (.bool true) ∧ Below w.heap.size w w' := by
  obtain ⟨k, h⟩ := (CodeAbove_ev a0 a1).rounds
  exact millhandlaw01_CodeAbove.calls k a0 a1 true w h
end Go.Proofs.YtagdmgjdhbmaiaaDoor.R

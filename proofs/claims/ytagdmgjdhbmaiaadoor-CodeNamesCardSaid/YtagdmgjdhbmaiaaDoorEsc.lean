/- Texts with their zero bytes told apart: what the library does there. -/
import Derived.Test.YtagdmgjdhbmaiaaDoorShelf
import Derived.Test.YtagdmgjdhbmaiaaDoorPlain
import Derived.Deep.LoopGhost
namespace Go.Proofs.YtagdmgjdhbmaiaaDoor.Esc
open Go.RowKit Go.Proofs.YtagdmgjdhbmaiaaDoorW.PrintWords Go.Proofs.YtagdmgjdhbmaiaaDoor.Plain Go.Proofs.YtagdmgjdhbmaiaaDoor.Shelf
set_option linter.unusedVariables false
set_option linter.unusedSimpArgs false

/-! ### texts with their zero bytes told apart -/
def esc : List UInt8 → List UInt8
  | [] => []
  | b :: l => if b = 0 then 0 :: 255 :: esc l else b :: esc l
theorem esc_append : ∀ a b : List UInt8, esc (a ++ b) = esc a ++ esc b
  | [], b => rfl
  | x :: a, b => by
    simp only [List.cons_append, esc]
    rw [esc_append a b]
    split <;> rfl
theorem esc_none : ∀ l : List UInt8, l.count 0 = 0 → esc l = l
  | [], _ => rfl
  | x :: l, h => by
    rw [List.count_cons] at h
    have h1 : l.count 0 = 0 := by omega
    have h2 : x ≠ 0 := by
      intro e
      rw [e] at h
      simp at h
    rw [esc, if_neg h2, esc_none l h1]
theorem esc_length : ∀ l : List UInt8, (esc l).length = l.length + l.count 0
  | [] => rfl
  | x :: l => by
    rw [esc, List.count_cons]
    by_cases h : x = 0
    · rw [if_pos h, if_pos (by simp [h])]
      simp only [List.length_cons, esc_length l]
      omega
    · rw [if_neg h, if_neg (by simp [h])]
      simp only [List.length_cons, esc_length l]
      omega
/-- Where the first zero byte lies. -/
theorem index_zero : ∀ l : List UInt8, 0 < l.count 0 → ∃ j : Nat, Lib.indexByte l 0 = (j : Int) ∧ j < l.length ∧ l.count 0 = (l.drop (j + 1)).count 0 + 1 ∧ esc l = l.take j ++ [0, 255] ++ esc (l.drop (j + 1)) ∧ l.take j ++ [0] ++ l.drop (j + 1) = l ∧ (l.take j).count 0 = 0
  | [], h => absurd h (by simp)
  | x :: l, h => by
    by_cases hx : x = 0
    · subst hx
      exact ⟨0, by simp [Lib.indexByte], by simp, by simp, by simp [esc], by simp, by simp⟩
    · have h1 : (x :: l).count 0 = l.count 0 := by rw [List.count_cons, if_neg (by simp [hx]), Nat.add_zero]
      rw [h1] at h
      obtain ⟨j, e1, e2, e3, e4, e5, e6⟩ := index_zero l h
      refine ⟨j + 1, ?_, Nat.succ_lt_succ e2, h1.trans e3, ?_, ?_, ?_⟩
      · rw [Lib.indexByte, if_neg (by simpa using hx), e1, if_neg (by simp)]
        rfl
      · simp only [esc, if_neg hx, List.take_succ_cons, List.drop_succ_cons, List.cons_append]
        rw [e4]
      · simp only [List.take_succ_cons, List.drop_succ_cons, List.cons_append]
        rw [e5]
      · rw [List.take_succ_cons, List.count_cons, if_neg (by simp [hx]), e6]
theorem index_no : ∀ l : List UInt8, l.count 0 = 0 → Lib.indexByte l 0 = -1
  | [], _ => rfl
  | x :: l, h => by
    rw [List.count_cons] at h
    have h1 : l.count 0 = 0 := by omega
    have h2 : x ≠ 0 := by
      intro e
      rw [e] at h
      simp at h
    rw [Lib.indexByte, if_neg (by simpa using h2), index_no l h1]
    rfl
def escB (s : ByteArray) : ByteArray := ⟨(esc s.data.toList).toArray⟩
theorem count_le : ∀ l : List UInt8, l.count 0 ≤ l.length := fun l => List.count_le_length
set_option maxHeartbeats 16000000 in
set_option maxRecDepth 1000000 in
theorem Replace_zero (s : ByteArray) (w : World) (hs : s.size ≤ 1048576) :
    Calls Tryd.prog 55 #[.string s, .string ⟨#[0]⟩, .string ⟨#[0, 255]⟩, .int .i64 (-1)] w fun e w' => e = .returned (.string (escB s)) ∧ Below w.heap.size w w' := by
  obtain ⟨K, hK⟩ : ∃ K : Nat, s.data.toList.count 0 = K := ⟨_, rfl⟩
  have hlenL : s.data.toList.length = s.size := (Lib.size_eq s).symm
  have hKs : K ≤ s.size := by rw [← hK, ← hlenL]; exact count_le _
  have hC : ∀ w, Calls Tryd.prog 62 #[.string s, .string ⟨#[0]⟩] w fun e w' => e = .returned (.int .i64 K) ∧ w' = w := fun w => by
    have := strings_Count_one s 0 w
    rw [show Lib.countByte s.data.toList 0 = K from hK] at this
    exact this
  have hI : ∀ (x : ByteArray) w, Calls Tryd.prog 64 #[.string x, .string ⟨#[0]⟩] w fun e w' => e = .returned (.int .i64 (Lib.indexByte x.data.toList 0)) ∧ w' = w := fun x w => strings_Index_one x 0 w
  have hcells : Lib.strCells ⟨#[0, 255]⟩ = Lib.byteCells [0, 255] := rfl
  obtain ⟨old, hold⟩ : ∃ o : ByteArray, o = ⟨#[0]⟩ := ⟨_, rfl⟩
  obtain ⟨new, hnew⟩ : ∃ o : ByteArray, o = ⟨#[0, 255]⟩ := ⟨_, rfl⟩
  have hbeq : (old.toList == new.toList) = false := by rw [hold, hnew]; simp [ByteArray.toList_eq]
  have ho : old.size = 1 := by rw [hold]; rfl
  have hn : new.size = 2 := by rw [hnew]; rfl
  rw [← hold, ← hnew]
  rw [← hold] at hC hI
  rw [← hnew] at hcells
  clear hold hnew
  have hod : decide ((0 : Int) < (old.size : Int)) = true := decide_eq_true (by omega)
  have hod' : decide (0 < old.size) = true := decide_eq_true (by omega)
  by_cases h0 : K = 0
  · subst h0
    have he : escB s = s := by
      unfold escB
      rw [esc_none _ hK]
    rw [he]
    go_enter Tryd.func55, Tryd.ntmps55
    go_wp2_with fail
    refine (hC _).mono ?_
    rintro e w' ⟨rfl, hw⟩
    replace hw := hw.symm
    subst hw
    go_wp2_with fail
    go_ret
    exact ⟨rfl, Below.refl _ _⟩
  · have hcz : ((K : Int) == 0) = false := beq_eq_false_iff_ne.2 (by omega)
    go_enter Tryd.func55, Tryd.ntmps55
    go_wp2_with fail
    refine (hC _).mono ?_
    rintro e w' ⟨rfl, hw⟩
    replace hw := hw.symm
    subst hw
    go_wp2_with fail
    clear hC
    rw [show (s.size : Int) + (K : Int) = ((s.size + K : Nat) : Int) from by omega]
    refine (Builder_Grow_fresh w.heap.size w.heap.size _ _ (Nat.le_refl _) (heap_alloc_new w _) (by simp) (by omega)).mono ?_
    rintro e w1 ⟨rfl, hb0, hb1⟩
    have H1 := Aside0.mk (Or.inr hb0 : Lib.IsBuilder 89 5 w.heap.size w.heap.size (Lib.byteCells []) w1)
    have Hb1 := Aside0.mk (((Below.refl w.heap.size w).alloc (Nat.le_refl _) _).trans hb1)
    clear hb0 hb1
    go_wp2_with fail
    go_loopg [11, 53] K (fun g s11 s53 wx => ∃ (i start : Nat) (acc : List UInt8), s53 = .int .i64 i ∧ s11 = .int .i64 start ∧ i + g = K ∧ start ≤ s.size ∧
      Aside0 (Lib.IsBuilder 89 5 w.heap.size w.heap.size (Lib.byteCells acc) wx) ∧ Aside0 (Below w.heap.size w wx) ∧ Aside0 (acc ++ esc (s.data.toList.drop start) = esc s.data.toList) ∧
      Aside0 ((s.data.toList.drop start).count 0 = g))
    case atStart => exact ⟨0, 0, [], rfl, rfl, by omega, Nat.zero_le _, H1, Hb1, Aside0.mk (by simp), Aside0.mk (by simpa using hK)⟩
    case round =>
      obtain ⟨i, start, acc, rfl, rfl, hig, hst, HB, HW, HR, HG⟩ := hrel
      have hBw : w.heap.size ≤ wr.heap.size := HW.out.size
      have c1 : (0 : Int) ≤ (start : Int) := by omega
      have c2 : (start : Int) ≤ (s.size : Int) := by omega
      have hdl : (s.data.toList.drop start).length = s.size - start := by rw [List.length_drop, hlenL]
      have hal : acc.length ≤ 2 * s.size := by
        have h1 := congrArg List.length HR.out
        rw [List.length_append, esc_length, esc_length, hlenL] at h1
        omega
      cases gk with
      | zero =>
        have hiK : ¬ ((i : Int) < (K : Int)) := by omega
        go_wp2_with fail
        refine (Builder_WriteString w.heap.size w.heap.size _ _ wr HB.out (by rw [Lib.byteCells_length, ByteArray.size_extract]; omega) hBw).mono ?_
        rintro e w3 ⟨rfl, h3, hb3⟩
        rw [Lib.strCells_eq, Lib.extract_to_end, ← Lib.byteCells_append] at h3
        have hfin : acc ++ s.data.toList.drop start = esc s.data.toList := by rw [← HR.out, esc_none _ HG.out]
        rw [hfin] at h3
        have H3 := Aside0.mk (Or.inr h3 : Lib.IsBuilder 89 5 w.heap.size w.heap.size _ w3)
        have Hb3 := Aside0.mk (HW.out.trans hb3)
        have hBw3 : w.heap.size ≤ w3.heap.size := Hb3.out.size
        clear h3 hb3 hfin
        go_wp2_with fail
        refine (Builder_String_any w.heap.size w.heap.size _ w3 H3.out hBw3).mono ?_
        rintro e w5 ⟨rfl, hb5⟩
        have Hb5 := Aside0.mk (Hb3.out.trans hb5)
        clear hb5
        go_wp2
        go_ret
        exact ⟨rfl, Hb5.out⟩
      | succ g =>
        have hiK : (i : Int) < (K : Int) := by omega
        obtain ⟨j, hj, hjl, hcnt, hesc, _, _⟩ := index_zero (s.data.toList.drop start) (by rw [HG.out]; omega)
        rw [hdl] at hjl
        rw [List.drop_drop] at hcnt hesc
        have c3 : (start : Int) ≤ (start : Int) + (j : Int) := by omega
        have c4 : (start : Int) + (j : Int) ≤ (s.size : Int) := by omega
        have Hn := Aside0.mk (show Lib.byteCells acc ++ Lib.strCells (s.extract start (start + j)) ++ Lib.strCells new = Lib.byteCells (acc ++ (s.data.toList.drop start).take j ++ [0, 255]) by
          rw [Lib.strCells_eq, hcells, Lib.extract_data, Nat.add_sub_cancel_left, ← Lib.byteCells_append, ← Lib.byteCells_append])
        have Hrep := Aside0.mk (show (acc ++ (s.data.toList.drop start).take j ++ [0, 255]) ++ esc (s.data.toList.drop (start + j + 1)) = esc s.data.toList by
          rw [← HR.out, hesc]
          simp only [List.append_assoc, Nat.add_assoc])
        have Hcnt := Aside0.mk (show (s.data.toList.drop (start + j + 1)).count 0 = g by
          have := HG.out
          rw [Nat.add_assoc]
          omega)
        clear HR HG hesc hcnt
        go_wp2_with fail
        refine (hI _ _).mono ?_
        rintro e w' ⟨rfl, hw⟩
        rw [Lib.extract_to_end, hj, hw]
        clear hw
        go_wp2_with fail
        refine (Builder_WriteString w.heap.size w.heap.size _ (s.extract start (start + j)) wr HB.out (by rw [Lib.byteCells_length, ByteArray.size_extract]; omega) hBw).mono ?_
        rintro e w3 ⟨rfl, h3, hb3⟩
        have hBw3 : w.heap.size ≤ w3.heap.size := Nat.le_trans hBw hb3.size
        have H3 := Aside0.mk h3
        have Hb3 := Aside0.mk hb3
        clear h3 hb3
        go_wp2_with fail
        refine (Builder_WriteString w.heap.size w.heap.size _ new w3 (Or.inr H3.out) (by rw [List.length_append, Lib.byteCells_length, Lib.strCells_length, ByteArray.size_extract]; omega) hBw3).mono ?_
        rintro e w4 ⟨rfl, h4, hb4⟩
        rw [Hn.out] at h4
        have H4 := Aside0.mk (Or.inr h4 : Lib.IsBuilder 89 5 w.heap.size w.heap.size _ w4)
        have Hb4 := Aside0.mk ((HW.out.trans Hb3.out).trans hb4)
        clear h4 hb4
        go_wp2
        go_roundg g
        case measure => omega
        case rel => exact ⟨i + 1, start + j + 1, _, by first | rfl | (simp; unfold wrap64; omega), by first | rfl | simp | (simp [ho]; unfold wrap64; omega), by omega, by omega, H4, Hb4, Hrep, Hcnt⟩
set_option maxRecDepth 100000 in
theorem ReplaceAll_zero (s : ByteArray) (w : World) (hs : s.size ≤ 1048576) :
    Calls Tryd.prog 44 #[.string s, .string ⟨#[0]⟩, .string ⟨#[0, 255]⟩] w fun e w' => e = .returned (.string (escB s)) ∧ Below w.heap.size w w' := by
  have hR := Replace_zero s w hs
  obtain ⟨old, hold⟩ : ∃ o : ByteArray, o = ⟨#[0]⟩ := ⟨_, rfl⟩
  obtain ⟨new, hnew⟩ : ∃ o : ByteArray, o = ⟨#[0, 255]⟩ := ⟨_, rfl⟩
  rw [← hold, ← hnew] at hR
  rw [← hold, ← hnew]
  clear hold hnew
  go_enter Tryd.func44, Tryd.ntmps44
  go_wp2_with fail
  refine hR.mono ?_
  rintro e w1 ⟨rfl, hb1⟩
  have Hb1 := Aside0.mk hb1
  clear hb1 hR
  go_wp2
  go_ret
  exact ⟨rfl, Hb1.out⟩

end Go.Proofs.YtagdmgjdhbmaiaaDoor.Esc

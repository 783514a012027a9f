/- Texts of keys: what the program does there. -/
import Derived.Test.YtagdmgjdhbmaiaaDoorEsc
namespace Go.Proofs.YtagdmgjdhbmaiaaDoor.Esc
open Go.RowKit Go.Proofs.YtagdmgjdhbmaiaaDoorW.PrintWords Go.Proofs.YtagdmgjdhbmaiaaDoor.Plain Go.Proofs.YtagdmgjdhbmaiaaDoor.Shelf
set_option linter.unusedVariables false
set_option linter.unusedSimpArgs false

/-! ### a text that a key goes on with -/
def unesc : List UInt8 → List UInt8 → Option (List UInt8 × List UInt8)
  | _, [] => none
  | _, [_] => none
  | acc, x :: y :: l => if x = 0 then (if y = 0 then some (acc, l) else if y = 255 then unesc (acc ++ [0]) l else none) else unesc (acc ++ [x]) (y :: l)
theorem unesc_no : ∀ (l acc : List UInt8), l.count 0 = 0 → unesc acc l = none
  | [], _, _ => by simp [unesc]
  | [x], _, _ => by simp [unesc]
  | x :: y :: l, acc, h => by
    rw [List.count_cons] at h
    have h1 : (y :: l).count 0 = 0 := by omega
    have h2 : x ≠ 0 := by
      intro e
      rw [e] at h
      simp at h
    rw [unesc, if_neg h2]
    exact unesc_no (y :: l) _ h1
theorem unesc_skip : ∀ (p acc l : List UInt8), p.count 0 = 0 → unesc acc (p ++ 0 :: l) = unesc (acc ++ p) (0 :: l)
  | [], acc, l, _ => by simp
  | x :: p, acc, l, h => by
    rw [List.count_cons] at h
    have h1 : p.count 0 = 0 := by omega
    have h2 : x ≠ 0 := by
      intro e
      rw [e] at h
      simp at h
    have ih := unesc_skip p (acc ++ [x]) l h1
    cases p with
    | nil =>
      rw [List.cons_append, List.nil_append, unesc, if_neg h2]
    | cons y p' =>
      rw [List.cons_append, List.cons_append, unesc, if_neg h2, ← List.cons_append, ih]
      simp
def textedS (s : ByteArray) : ByteArray × ByteArray × Bool :=
  match unesc [] s.data.toList with
  | none => (⟨#[]⟩, ⟨#[]⟩, false)
  | some (a, r) => (⟨a.toArray⟩, ⟨r.toArray⟩, true)
set_option maxHeartbeats 16000000 in
set_option maxRecDepth 1000000 in
theorem texted_walk (s : ByteArray) (r : ByteArray × ByteArray × Bool) (w : World) (hs : s.size ≤ 1048576) (hr : textedS s = r) :
    Calls Tryd.prog 45 #[.string s] w fun e w' => e = .returned (.tuple #[.string r.1, .string r.2.1, .bool r.2.2]) ∧ Below w.heap.size w w' := by
  have hI : ∀ (x : ByteArray) w, Calls Tryd.prog 56 #[.string x, .int .u8 0] w fun e w' => e = .returned (.int .i64 (Lib.indexByte x.data.toList 0)) ∧ w' = w := fun x w => strings_IndexByte x 0 w
  have hlenL : s.data.toList.length = s.size := (Lib.size_eq s).symm
  have HR := Aside0.mk hr
  clear hr
  go_enter Tryd.func45, Tryd.ntmps45
  go_wp2_with fail
  have hbk := heap_alloc_new w (.cells #[.pointer none, .slice none 0 0] 89)
  have H0 := Aside0.mk (show Lib.IsBuilder 89 5 w.heap.size w.heap.size (Lib.byteCells []) (w.alloc (.cells #[.pointer none, .slice none 0 0] 89)) from
    Or.inl ⟨Nat.le_refl _, _, hbk, by simp [World.ownsRow, Lib.byteCells], by simp [Value.ownBlock]⟩)
  have Hb0 := Aside0.mk ((Below.refl w.heap.size w).alloc (Nat.le_refl _) (.cells #[.pointer none, .slice none 0 0] 89))
  clear hbk
  go_loopg [0] s.size (fun g s0 wx => ∃ (x : ByteArray) (acc : List UInt8), s0 = .string x ∧ x.size = g ∧ acc.length + x.size ≤ s.size ∧
    Aside0 (Lib.IsBuilder 89 5 w.heap.size w.heap.size (Lib.byteCells acc) wx) ∧ Aside0 (Below w.heap.size w wx) ∧ Aside0 (unesc acc x.data.toList = unesc [] s.data.toList))
  case atStart => exact ⟨s, [], rfl, rfl, by simp, H0, Hb0, Aside0.mk rfl⟩
  case round =>
    obtain ⟨x, acc, rfl, hxg, hal, HB, HW, HU⟩ := hrel
    subst hxg
    have hBw : w.heap.size ≤ wr.heap.size := HW.out.size
    have hxl : x.data.toList.length = x.size := (Lib.size_eq x).symm
    go_wp2_with fail
    refine (hI _ _).mono ?_
    rintro e w' ⟨rfl, hw⟩
    replace hw := hw.symm
    subst hw
    by_cases h0 : x.data.toList.count 0 = 0
    · rw [index_no _ h0]
      have HX := Aside0.mk (unesc_no _ acc h0)
      go_wp2
      go_ret3
      refine ⟨?_, HW.out⟩
      rw [← HR.out]
      unfold textedS
      rw [← HU.out, HX.out]
      rfl
    · obtain ⟨j, hj, hjl, hx1, hx2, hsplit, hpc⟩ := index_zero x.data.toList (by omega)
      rw [hxl] at hjl
      rw [hj]
      have d1 : decide ((j : Int) < 0) = false := decide_eq_false (by omega)
      have HS := Aside0.mk hsplit
      have HP := Aside0.mk hpc
      clear hsplit hpc hj hx1 hx2
      by_cases h1 : j + 1 = x.size
      · have d2 : ((j : Int) + 1 == (x.size : Int)) = true := beq_iff_eq.mpr (by omega)
        have HX : Aside0 (unesc acc x.data.toList = none) := Aside0.mk (by
          have e1 : x.data.toList.drop (j + 1) = [] := List.drop_eq_nil_of_le (by omega)
          have e2 := HS.out
          rw [e1, List.append_nil] at e2
          rw [← e2, unesc_skip _ _ _ HP.out]
          simp [unesc])
        go_wp2
        go_ret3
        refine ⟨?_, HW.out⟩
        rw [← HR.out]
        unfold textedS
        rw [← HU.out, HX.out]
        rfl
      · have d2 : ((j : Int) + 1 == (x.size : Int)) = false := beq_eq_false_iff_ne.2 (by omega)
        have c1 : (0 : Int) ≤ (j : Int) := by omega
        have c2 : (j : Int) ≤ (x.size : Int) := by omega
        have c3 : (j : Int) + 1 < (x.size : Int) := by omega
        have c4 : (0 : Int) ≤ (j : Int) + 1 := by omega
        have c5 : (j : Int) + 2 ≤ (x.size : Int) := by omega
        have c6 : (0 : Int) ≤ (j : Int) + 2 := by omega
        have hj1 : j + 1 < x.size := by omega
        obtain ⟨y, hy⟩ : ∃ y : UInt8, x[j + 1] = y := ⟨_, rfl⟩
        have hdy : x.data.toList.drop (j + 1) = y :: x.data.toList.drop (j + 2) := by
          rw [List.drop_eq_getElem_cons (by omega), ← hy]
          rfl
        have HY := Aside0.mk (show unesc acc x.data.toList = if y = 0 then some (acc ++ x.data.toList.take j, x.data.toList.drop (j + 2)) else if y = 255 then unesc (acc ++ x.data.toList.take j ++ [0]) (x.data.toList.drop (j + 2)) else none by
          have e2 := HS.out
          rw [hdy, List.append_assoc] at e2
          conv => lhs; rw [← e2]
          rw [List.singleton_append, unesc_skip _ _ _ HP.out, unesc, if_pos rfl])
        have hx2 : (x.extract (j + 2) x.size) = ⟨(x.data.toList.drop (j + 2)).toArray⟩ := by
          have := Lib.extract_to_end x (j + 2)
          rw [← this, Array.toArray_toList]
        have HX2 := Aside0.mk hx2
        have Hn := Aside0.mk (show Lib.byteCells acc ++ Lib.strCells (x.extract 0 j) = Lib.byteCells (acc ++ x.data.toList.take j) by
          rw [Lib.strCells_eq, Lib.extract_data, List.drop_zero, Nat.sub_zero, ← Lib.byteCells_append])
        have hml : (x.data.toList.take j).length = j := by rw [List.length_take, hxl]; omega
        clear hx2 HS HP hdy
        have hw_ : True := trivial
        by_cases y0 : y = 0
        · have f0 : ((x[j + 1].toNat : Int) == 0) = true := by rw [hy, y0]; rfl
          have f0' : (x[j + 1].toNat : Int) = 0 := by rw [hy, y0]; rfl
          go_wp2_with fail
          refine (Builder_WriteString w.heap.size w.heap.size _ (x.extract 0 j) wr HB.out (by rw [Lib.byteCells_length, ByteArray.size_extract]; omega) hBw).mono ?_
          rintro e w3 ⟨rfl, h3, hb3⟩
          have hBw3 : w.heap.size ≤ w3.heap.size := Nat.le_trans hBw hb3.size
          rw [Hn.out] at h3
          have H3 := Aside0.mk (Or.inr h3 : Lib.IsBuilder 89 5 w.heap.size w.heap.size _ w3)
          have Hb3 := Aside0.mk (HW.out.trans hb3)
          clear h3 hb3
          go_wp2_with fail
          refine (Builder_String_any w.heap.size w.heap.size _ _ H3.out hBw3).mono ?_
          rintro e w5 ⟨rfl, hb5⟩
          have Hb5 := Aside0.mk (Hb3.out.trans hb5)
          clear hb5
          go_wp2
          go_ret3
          refine ⟨?_, Hb5.out⟩
          rw [← HR.out]
          unfold textedS
          rw [← HU.out, HY.out, if_pos y0, HX2.out]
          rfl
        · have hyn : y.toNat ≠ 0 := fun e => y0 (UInt8.toNat_inj.mp e)
          have f0 : ((x[j + 1].toNat : Int) == 0) = false := by rw [hy]; exact beq_eq_false_iff_ne.2 (by omega)
          by_cases y1 : y = 255
          · have f1 : ((x[j + 1].toNat : Int) != 255) = false := by rw [hy, y1]; rfl
            have f2 : (x[j + 1].toNat : Int) = 255 := by rw [hy, y1]; rfl
            go_wp2_with fail
            refine (Builder_WriteString w.heap.size w.heap.size _ (x.extract 0 j) wr HB.out (by rw [Lib.byteCells_length, ByteArray.size_extract]; omega) hBw).mono ?_
            rintro e w3 ⟨rfl, h3, hb3⟩
            have hBw3 : w.heap.size ≤ w3.heap.size := Nat.le_trans hBw hb3.size
            rw [Hn.out] at h3
            have H3 := Aside0.mk (Or.inr h3 : Lib.IsBuilder 89 5 w.heap.size w.heap.size _ w3)
            have Hb3 := Aside0.mk (HW.out.trans hb3)
            clear h3 hb3
            go_wp2_with fail
            refine (Builder_WriteByte w.heap.size w.heap.size _ 0 _ H3.out (by rw [Lib.byteCells_length, List.length_append, hml]; omega) hBw3).mono ?_
            rintro e w4 ⟨rfl, h4, hb4⟩
            have H4 := Aside0.mk (Or.inr h4 : Lib.IsBuilder 89 5 w.heap.size w.heap.size _ w4)
            have Hb4 := Aside0.mk (Hb3.out.trans hb4)
            clear h4 hb4
            go_wp2
            go_roundg (x.extract (j + 2) x.size).size
            case measure => rw [ByteArray.size_extract]; omega
            case rel =>
              refine ⟨x.extract (j + 2) x.size, acc ++ x.data.toList.take j ++ [0], by first | rfl | simp, rfl, ?_, ?_, Hb4, ?_⟩
              · rw [ByteArray.size_extract, List.length_append, List.length_append, hml]
                simp
                omega
              · have h := H4.out
                rw [show Lib.byteCells (acc ++ x.data.toList.take j) ++ [Value.int IntKind.u8 0] = Lib.byteCells (acc ++ x.data.toList.take j ++ [0]) from (Lib.byteCells_append _ [0]).symm] at h
                exact Aside0.mk h
              · refine Aside0.mk ?_
                rw [Lib.extract_to_end, ← HU.out, HY.out, if_neg y0, if_pos y1]
          · have hyn2 : y.toNat ≠ 255 := fun e => y1 (UInt8.toNat_inj.mp e)
            have f1 : ((x[j + 1].toNat : Int) != 255) = true := by rw [hy]; exact bne_iff_ne.2 (by omega)
            go_wp2_with fail
            refine (Builder_WriteString w.heap.size w.heap.size _ (x.extract 0 j) wr HB.out (by rw [Lib.byteCells_length, ByteArray.size_extract]; omega) hBw).mono ?_
            rintro e w3 ⟨rfl, h3, hb3⟩
            have Hb3 := Aside0.mk (HW.out.trans hb3)
            clear h3 hb3
            go_wp2
            go_ret3
            refine ⟨?_, Hb3.out⟩
            rw [← HR.out]
            unfold textedS
            rw [← HU.out, HY.out, if_neg y0, if_neg y1]
            rfl

end Go.Proofs.YtagdmgjdhbmaiaaDoor.Esc

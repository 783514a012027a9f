/- The least text above: what the program does there. -/
import Derived.Test.YtagdmgjdhbmaiaaDoorEsc
import Derived.Lib.ConvBytes
import Derived.Lib.SlBytesRow
namespace Go.Proofs.YtagdmgjdhbmaiaaDoor.Esc
open Go.RowKit Go.Proofs.YtagdmgjdhbmaiaaDoorW.PrintWords Go.Proofs.YtagdmgjdhbmaiaaDoor.Plain Go.Proofs.YtagdmgjdhbmaiaaDoor.Shelf
set_option linter.unusedVariables false
set_option linter.unusedSimpArgs false

/-! ### the least text above -/
def aboveS (s : ByteArray) : ByteArray × Bool :=
  match s.data.toList.reverse.dropWhile (· == 255) with
  | [] => (⟨#[]⟩, false)
  | x :: l => (⟨((x + 1) :: l).reverse.toArray⟩, true)
theorem int_u8_inc (x : UInt8) (h : x ≠ 255) : ((x + 1).toNat : Int) = (x.toNat : Int) + 1 ∧ x.toNat < 255 := by
  have h1 : x.toNat ≠ 255 := fun e => h (UInt8.toNat_inj.mp e)
  have h2 := x.toNat_lt
  refine ⟨?_, by omega⟩
  rw [UInt8.toNat_add]
  have : (1 : UInt8).toNat = 1 := rfl
  rw [this]
  omega
set_option maxHeartbeats 16000000 in
set_option maxRecDepth 1000000 in
theorem above_walk (s : ByteArray) (r : ByteArray × Bool) (w : World) (hs : s.size ≤ 1099511627776) (hr : aboveS s = r) :
    Calls Tryd.prog 21 #[.string s] w fun e w' => e = .returned (.tuple #[.string r.1, .bool r.2]) ∧ Below w.heap.size w w' := by
  have hlenL : s.data.toList.length = s.size := (Lib.size_eq s).symm
  have HR := Aside0.mk hr
  clear hr
  have hcv := Lib.run_convert_string_bytes (P := Tryd.prog) w 9 41 5 s Tryd.underlying9 Tryd.underlying41 Tryd.underlying5
  obtain ⟨cap, hcap⟩ : ∃ c, grownCap w s.size 0 5 = c := ⟨_, rfl⟩
  rw [hcap] at hcv
  have hB := Aside0.mk (show Below w.heap.size w (Lib.bytesWorld w 5 s) from bytes_below (Below.refl _ _) (Nat.le_refl _) _ s)
  have hcell := fun j hj => Lib.bytesWorld_cell w 5 s j hj
  obtain ⟨W, hW⟩ : ∃ W, Lib.bytesWorld w 5 s = W := ⟨_, rfl⟩
  rw [hW] at hcv hB hcell
  go_enter Tryd.func21, Tryd.ntmps21
  go_wp2_with fail
  have hcl : s.size ≤ cap := by rw [← hcap]; exact grownCap_ge ..
  have hnew := Lib.bytesWorld_at_new w 5 s
  have hsz : s.size ≤ (Lib.bytesCells w 5 s).size := by
    simp only [Lib.bytesCells, Array.size_append, Array.size_map]
    exact Nat.le_add_right _ _
  rw [hW] at hnew
  have hfz : ∀ j, j < s.size → W.frozen? ⟨w.heap.size, j, none⟩ = false := fun j hj => by
    simp only [World.frozen?, hnew]
    simp
    omega
  clear hW hnew hsz hcap
  go_loopg [4] s.size (fun g s4 wx => s4 = .slice (some ⟨w.heap.size, 0, none⟩) g cap ∧ g ≤ s.size ∧ wx = W ∧ Aside0 ((s.data.toList.take g).reverse.dropWhile (· == 255) = s.data.toList.reverse.dropWhile (· == 255)))
  case atStart => exact ⟨rfl, Nat.le_refl _, rfl, Aside0.mk (by rw [← hlenL, List.take_length])⟩
  case round =>
    obtain ⟨rfl, hgl, hwr, HD⟩ := hrel
    subst hwr
    cases gk with
    | zero =>
      go_wp2_with fail
      go_ret2
      refine ⟨?_, hB.out⟩
      rw [← HR.out]
      unfold aboveS
      rw [← HD.out]
      rfl
    | succ m =>
      obtain ⟨x, hx⟩ : ∃ x : UInt8, s.data.toList.getD m 0 = x := ⟨_, rfl⟩
      have hc := hcell m (by omega)
      have hf := hfz m (by omega)
      have hmc : (m : Int) ≤ (cap : Int) := by omega
      have hmc' : m ≤ cap := by omega
      have ht : s.data.toList.take (m + 1) = s.data.toList.take m ++ [x] := by
        rw [List.take_add_one, ← hx]
        simp [List.getD, List.getElem?_eq_getElem (show m < s.data.toList.length by omega)]
      have HT := Aside0.mk ht
      rw [hx] at hc
      have hlt := x.toNat_lt
      by_cases h5 : x = 255
      · have f0 : ((x.toNat : Int) == 255) = true := by rw [h5]; rfl
        go_wp2_with fail
        go_roundg m
        case measure => omega
        case rel =>
          refine ⟨by first | rfl | simp, by omega, rfl, Aside0.mk ?_⟩
          rw [← HD.out, HT.out, List.reverse_append]
          simp [h5]
      · have f0 : ((x.toNat : Int) == 255) = false := beq_eq_false_iff_ne.2 (fun e => h5 (UInt8.toNat_inj.mp (by have : (255 : UInt8).toNat = 255 := rfl; omega)))
        have hx1 := int_u8_inc x h5
        have hmod : ((x.toNat : Int) + 1) % 256 = ((x + 1).toNat : Int) := by rw [hx1.1]; omega
        obtain ⟨y, hy⟩ : ∃ y : ByteArray, y = ⟨(s.data.toList.take m ++ [x + 1]).toArray⟩ := ⟨_, rfl⟩
        have hys : y.size = m + 1 := by
          rw [hy, Lib.size_eq]
          simp [List.length_take]
          omega
        have HB2 := Aside0.mk (show Lib.Bytes (wr.setCell ⟨w.heap.size, m, none⟩ (.int .u8 ((x.toNat : Int) + 1))) w.heap.size 0 y from fun i hi => by
          rw [hys] at hi
          rw [Nat.zero_add]
          have hyl : y.data.toList = s.data.toList.take m ++ [x + 1] := by rw [hy]
          have hyi : y[i] = y.data.toList[i]'(by rw [← Lib.size_eq]; omega) := rfl
          by_cases hm : i = m
          · subst hm
            rw [World.cell?_setCell_same (h := hc), hyi]
            have hk : y.data.toList[i]'(by rw [← Lib.size_eq]; omega) = x + 1 := by
              simp only [hyl]
              rw [List.getElem_append_right (by rw [List.length_take]; omega)]
              simp [List.length_take, show min i s.data.toList.length - i = 0 by omega, show i - min i s.data.toList.length = 0 by omega]
            rw [hk, hx1.1]
          · rw [World.cell?_setCell_other (h := show (⟨w.heap.size, m, none⟩ : Addr) ≠ ⟨w.heap.size, i, none⟩ from fun e => hm (by injection e with _ h _; exact h.symm)), hcell i (by omega), hyi]
            have hk : y.data.toList[i]'(by rw [← Lib.size_eq]; omega) = s.data.toList.getD i 0 := by
              simp only [hyl]
              rw [List.getElem_append_left (by rw [List.length_take]; omega)]
              simp [List.getD, List.getElem?_eq_getElem (show i < s.data.toList.length by omega)]
            rw [hk])
        have hcv2 := Lib.run_convert_whole (P := Tryd.prog) _ 41 5 9 Tryd.underlying41 Tryd.underlying5 Tryd.underlying9 w.heap.size 0 y HB2.out cap
        rw [hys] at hcv2
        have HB3 := Aside0.mk (hB.out.setCell (p := ⟨w.heap.size, m, none⟩) (Nat.le_refl _) (.int .u8 ((x.toNat : Int) + 1)))
        go_wp2_with fail
        go_ret2
        refine ⟨?_, HB3.out⟩
        rw [← HR.out]
        unfold aboveS
        rw [← HD.out, HT.out, List.reverse_append]
        simp [h5, hy]

end Go.Proofs.YtagdmgjdhbmaiaaDoor.Esc

/- slices.Sort at strings, as a printed text asks for it. -/
import Derived.Test.YtdlghckcbbjipaaRx0
import Derived.Test.YtdlghckcbbjipaaShelf
import Derived.Shelf.Sort.Plain
import Derived.Shelf.Slices.In.SortNone
import Derived.Carry
namespace Go.Proofs.Ytdlghckcbbjipaa.R
open Go.RowKit Go.Proofs.YtdlghckcbbjipaaW.PrintWords Go.Proofs.YtdlghckcbbjipaaW.PrintLast Go.Proofs.YtdlghckcbbjipaaW.PrintMore Go.Sort
set_option linter.unusedVariables false
set_option linter.unusedSimpArgs false
/-- The texts in order. -/
def sortB (l : List ByteArray) : List ByteArray := ((l.map (fun b => b.data.toList)).mergeSort fun x y => decide (x ≤ y)).map (fun x => ⟨x.toArray⟩)
theorem sortB_length (l : List ByteArray) : (sortB l).length = l.length := by simp [sortB]
theorem srt_heap (w : World) (m g : Nat) (d : Array (List UInt8)) (os : Array Obj) (k : Nat) (hk : k < w.heap.size) :
    (grow (putRow encStr (Go.Sort.ahead w m) g 0 d) os).heap[k]? = if g = k then (w.heap[k]?).map (onCells (putCells encStr 0 d)) else w.heap[k]? := by
  show (((Go.Sort.ahead w m).heap.modify g (onCells (putCells encStr 0 d))) ++ os)[k]? = _
  rw [Array.getElem?_append_left (by rw [Array.size_modify]; exact hk), Array.getElem?_modify]
  rfl
theorem srt_grown (w : World) (m g : Nat) (d : Array (List UInt8)) (os : Array Obj) : w.grownBy (grow (putRow encStr (Go.Sort.ahead w m) g 0 d) os) (some g) := by
  refine ⟨rfl, rfl, rfl, ?_, fun k hk hne => ?_⟩
  · show w.heap.size ≤ (((Go.Sort.ahead w m).heap.modify g (onCells (putCells encStr 0 d))) ++ os).size
    rw [Array.size_append, Array.size_modify]
    exact Nat.le_add_right _ _
  · rw [srt_heap w m g d os k hk, if_neg (fun e => hne (by rw [e]))]
theorem srt_own (w : World) (m g cap base : Nat) (cur : Array Value) (l : List ByteArray) (d : List (List UInt8)) (os : Array Obj) (hb : base ≤ g) (hh : w.heap[g]? = some (.cells cur 9 (0, 0))) (hl : l.length ≤ cap) (hc : cap ≤ maxLen) (hs : cur.size = cap * 1) (hd : d.length = l.length) :
    (grow (putRow encStr (Go.Sort.ahead w m) g 0 d.toArray) os).ownsRow base 9 1 (.slice (some ⟨g, 0, none⟩) l.length cap) l.length (d.map encStr) := by
  have hg : g < w.heap.size := by
    rcases Nat.lt_or_ge g w.heap.size with h | h
    · exact h
    · rw [Array.getElem?_eq_none h] at hh; cases hh
  refine ⟨by simp [hd], .inr ⟨g, cap, putCells encStr 0 d.toArray cur, rfl, hb, ?_, hl, hc, ?_, ?_⟩⟩
  · rw [srt_heap w m g d.toArray os g hg, if_pos rfl, hh]; rfl
  · simp [putCells, hs]
  · apply List.ext_getElem?
    intro i
    rw [List.getElem?_take, Nat.mul_one]
    by_cases hi : i < l.length
    · rw [if_pos hi, Array.getElem?_toList, putCells, Array.getElem?_mapIdx, Array.getElem?_eq_getElem (by omega : i < cur.size), Option.map_some, if_pos (by simp; omega), List.getElem?_map, List.getElem?_eq_getElem (by omega : i < d.length)]
      simp [hd, hi]
    · rw [if_neg hi, List.getElem?_map, List.getElem?_eq_none (by omega)]; rfl
set_option maxHeartbeats 1000000 in
theorem sort_calls (P0_ : Nat → Prop) (u9000_ : Value) (l0 : List ByteArray) (r : List ByteArray) (w0 w : World) (hB : Below w0.heap.size w0 w) (ho0 : Kd.R Kd.string 9 w w0.heap.size P0_ u9000_ l0) (h : (if l0.length < 4611686018427387904 then some (sortB l0) else none) = some r) :
    Calls Try.prog 51 #[u9000_] w fun e w' => e = .returned (.tuple #[]) ∧ Kd.R Kd.string 9 w' w0.heap.size (fun k_ => (P0_ k_ ∨ w.heap.size ≤ k_)) u9000_ r ∧ Below w0.heap.size w0 w' ∧ Kept w w' (fun k_ => P0_ k_) := by
  by_cases hb : l0.length < 4611686018427387904
  · rw [if_pos hb] at h
    obtain rfl := Option.some.inj h
    obtain ⟨hsz, ho⟩ := Kd.own_of_R ho0
    rcases ho with ⟨rfl, h0⟩ | ⟨g, cap, cur, rfl, hg, hh, hl, hc, hs, ht⟩
    · obtain rfl : l0 = [] := List.eq_nil_of_length_eq_zero h0
      refine (Any.slices_Sort_string_none Shelf.lays190 none 0 w).mono ?_
      rintro e w' ⟨rfl, rfl⟩
      rw [show sortB [] = [] by simp [sortB]]
      exact ⟨rfl, Kd.R_nil _ _ _ _ _, hB, Kept.refl _ _⟩
    · have hlt : g < w.heap.size := by
        rcases Nat.lt_or_ge g w.heap.size with h | h
        · exact h
        · rw [Array.getElem?_eq_none h] at hh; cases hh
      have hH : Holds encStr w g 0 (l0.map (fun b => b.data.toList)).toArray := by
        intro j hj
        have hj' : j < l0.length := by simpa using hj
        have he : cur[j]? = some (Value.string l0[j]) := by
          have := congrArg (fun x => x[j]?) ht
          simp only [List.getElem?_take, Nat.mul_one, if_pos hj', Array.getElem?_toList, encs, List.getElem?_map, List.getElem?_eq_getElem hj', Option.map_some] at this
          exact this
        have hx : encStr ((l0.map (fun b => b.data.toList)).toArray[j]!) = Value.string l0[j] := by
          rw [getElem!_pos ((l0.map (fun b => b.data.toList)).toArray) j hj]; simp [encStr]
        rw [Nat.zero_add, hx]
        exact ⟨by simp [World.cell?, hh, he], by simp [World.frozen?, hh]⟩
      have hC := Any.slices_Sort_string Shelf.lays190 g 0 cap (l0.map (fun b => b.data.toList)) w hH hlt (by simpa using hb)
      rw [List.length_map] at hC
      refine Calls.mono hC ?_
      rintro e w' ⟨rfl, n, os, rfl⟩
      have hgr := srt_grown w n g ((l0.map (fun b => b.data.toList)).mergeSort fun x y => decide (x ≤ y)).toArray os
      refine ⟨rfl, Kd.R_mono (Kd.R_of_own ?_ ?_) (fun k hk => .inl hk), pw_below_grown hB (some g) hB.size hgr (fun k hk => by cases hk; exact hg), Kept.of_grown hgr (Kept.refl _ _) (fun k hk => .inl ?_)⟩
      · have e1 : encs Value.string (sortB l0) = ((l0.map (fun b => b.data.toList)).mergeSort fun x y => decide (x ≤ y)).map encStr := by
          unfold sortB encs
          rw [List.map_map]; rfl
        rw [sortB_length, e1]
        have hlen : ((l0.map (fun b => b.data.toList)).mergeSort fun x y => decide (x ≤ y)).length = l0.length := by rw [List.length_mergeSort, List.length_map]
        have h9 := srt_own w n g cap w0.heap.size cur l0 ((l0.map (fun b => b.data.toList)).mergeSort fun x y => decide (x ≤ y)) os hg hh hl hc hs hlen
        exact h9
      · intro k hk
        exact ho0.1 k hk
      · cases hk
        exact ho0.1 _ rfl
  · rw [if_neg hb] at h
    cases h
end Go.Proofs.Ytdlghckcbbjipaa.R

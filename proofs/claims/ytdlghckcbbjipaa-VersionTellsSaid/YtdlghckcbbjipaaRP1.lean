/- Which versions may be, and what the document's own functions tell of them, in plain words. -/
import Derived.Test.YtdlghckcbbjipaaRx2
import Derived.Test.YtdlghckcbbjipaaRx3
import Derived.Test.YtdlghckcbbjipaaRx4
import Derived.Test.YtdlghckcbbjipaaRx7
import Derived.Test.YtdlghckcbbjipaaRx10
import Derived.Test.YtdlghckcbbjipaaRx11
import Derived.Test.YtdlghckcbbjipaaRx13
import Derived.Test.YtdlghckcbbjipaaRx14
import Derived.Test.YtdlghckcbbjipaaRV1
import Derived.Test.YtdlghckcbbjipaaOrd
namespace Go.Proofs.Ytdlghckcbbjipaa.R
open Go.RowKit Go.Proofs.YtdlghckcbbjipaaW.PrintWords Go.Proofs.YtdlghckcbbjipaaW.PrintLast Go.Proofs.YtdlghckcbbjipaaW.PrintMore Go.Proofs.Ytdlghckcbbjipaa.Plain
set_option linter.unusedVariables false
set_option linter.unusedSimpArgs false
/-! ### the order of texts -/
theorem nless {a b : List UInt8} (h : ¬ Op.bytesLess a b = true) : Op.bytesLess a b = false := by simpa using h
theorem text_eq {a b : ByteArray} (h : a.toList = b.toList) : a = b := by
  rw [ByteArray.toList_eq, ByteArray.toList_eq] at h
  cases a
  cases b
  simp only [Array.toList_inj] at h
  rw [h]

/-! ### reads -/
theorem rd_meta (l : List MetaT) (i : Nat) (hi : i < l.length) : rd_T32 l (i : Int) = l[i] := by simp [rd_T32, List.getD_eq_getElem?_getD, List.getElem?_eq_getElem hi]
theorem rd_lvl (l : List (List MetaT)) (i : Nat) (hi : i < l.length) : rd_L3 l (i : Int) = l[i] := by simp [rd_L3, List.getD_eq_getElem?_getD, List.getElem?_eq_getElem hi]

/-! ### how many tables -/
theorem many_l0 (l : List (List MetaT)) : ∀ (d i s : Nat), i + d = l.length → s + (l.drop i).flatten.length ≤ 1000000 → l.length ≤ 20 →
    Ev (fun k => version_many.l0 k (s : Int) l (l.length : Int) (i : Int)) ((s + (l.drop i).flatten.length : Nat) : Int)
  | 0, i, s, h, hs, hl => by
    refine Ev.step (fun _ => version_many.l0.eq_2 ..) (ev_neg (by omega) (ev_some ?_))
    rw [List.drop_of_length_le (by omega)]; simp
  | d + 1, i, s, h, hs, hl => by
    have hi : i < l.length := by omega
    rw [List.drop_eq_getElem_cons hi, List.flatten_cons, List.length_append] at hs
    refine Ev.step (fun _ => version_many.l0.eq_2 ..) (ev_pos (by omega) (ev_pos (by omega) (ev_pos (by omega) ?_)))
    rw [rd_lvl l i hi, w64 (i := (i : Int) + 1) (by omega) (by omega), w64 (by omega) (by omega)]
    have ih := many_l0 l d (i + 1) (s + l[i].length) (by omega) (by omega) hl
    rw [List.drop_eq_getElem_cons hi, List.flatten_cons, List.length_append]
    refine ev_eq ih ?_
    congr 1; omega
theorem flat_le (l : List (List MetaT)) (b : Nat) (h : ∀ x ∈ l, x.length ≤ b) : l.flatten.length ≤ l.length * b := by
  induction l with
  | nil => simp
  | cons x l ih =>
    have h1 := h x (List.mem_cons_self ..)
    have h2 := ih fun y hy => h y (List.mem_cons_of_mem _ hy)
    rw [List.flatten_cons, List.length_append, List.length_cons, Nat.succ_mul]
    omega
theorem many_ev (l : List (List MetaT)) (next seq : Int) (log : ByteArray) (hl : l.length ≤ 20) (hm : ∀ x ∈ l, x.length ≤ 100) : Ev (fun k => version_many.f k l next seq log) (l.flatten.length : Int) := by
  have hf := flat_le l 100 hm
  unfold version_many.f
  have := many_l0 l l.length 0 0 (by omega) (by rw [List.drop_zero]; omega) hl
  simpa using this
theorem Check_ev (l : List (List MetaT)) (next seq : Int) (log : ByteArray) (hl : l.length ≤ 20) (hm : ∀ x ∈ l, x.length ≤ 100) :
    Ev (fun k => version_Check.f k l next seq log) (if l.flatten.length > 32 then 4 else if mayV l next seq log = true then 0 else 8) := by
  have hf := flat_le l 100 hm
  unfold version_Check.f
  refine Ev.bind (many_ev l next seq log hl hm) (ev_ite' (by omega) (fun _ => Ev.now _) fun _ => ?_)
  refine Ev.bind (a := mayV l next seq log) ?_ (ev_ite (fun _ => Ev.now _) (fun _ => Ev.now _))
  unfold version_may.f
  rw [if_pos (by omega)]
  exact Ev.now _

/-! ### greatness -/
theorem gm_l0 (l : List MetaT) (hl : l.length ≤ 100) : ∀ (d i : Nat), i + d = l.length → ∃ b, Ev (fun k => millhandref16_GreatMetas.l0 k l (i : Int)) b
  | 0, i, h => ⟨false, Ev.step (fun _ => millhandref16_GreatMetas.l0.eq_2 ..) (ev_neg (by omega) (Ev.now _))⟩
  | d + 1, i, h => by
    obtain ⟨b, ih⟩ := gm_l0 l hl d (i + 1) (by omega)
    have hw : wrap64 ((i : Int) + 1) = ((i + 1 : Nat) : Int) := w64 (by omega) (by omega)
    by_cases h1 : ((rd_T32 l (i : Int)).f0.size : Int) > 1000
    · exact ⟨true, Ev.step (fun _ => millhandref16_GreatMetas.l0.eq_2 ..) (ev_pos (by clear hw; omega) (ev_pos (by clear hw; omega) (ev_pos h1 (Ev.now _))))⟩
    by_cases h2 : ((rd_T32 l (i : Int)).f3.size : Int) > 1000
    · exact ⟨true, Ev.step (fun _ => millhandref16_GreatMetas.l0.eq_2 ..) (ev_pos (by clear hw; omega) (ev_pos (by clear hw; omega) (ev_neg h1 (ev_pos h2 (Ev.now _)))))⟩
    by_cases h3 : ((rd_T32 l (i : Int)).f4.size : Int) > 1000
    · exact ⟨true, Ev.step (fun _ => millhandref16_GreatMetas.l0.eq_2 ..) (ev_pos (by clear hw; omega) (ev_pos (by clear hw; omega) (ev_neg h1 (ev_neg h2 (ev_pos h3 (Ev.now _))))))⟩
    refine ⟨b, Ev.step (fun _ => millhandref16_GreatMetas.l0.eq_2 ..) (ev_pos (by clear hw; omega) (ev_pos (by clear hw; omega) (ev_neg h1 (ev_neg h2 (ev_neg h3 ?_)))))⟩
    rw [hw]
    exact ih
theorem gm_ev (l : List MetaT) : ∃ b, Ev (fun k => millhandref16_GreatMetas.f k l) b ∧ (b = false → l.length ≤ 100) := by
  unfold millhandref16_GreatMetas.f
  by_cases h : (l.length : Int) > 100
  · exact ⟨true, ev_pos h (Ev.now _), fun e => by cases e⟩
  · obtain ⟨b, hb⟩ := gm_l0 l (by omega) l.length 0 (by omega)
    exact ⟨b, ev_neg h hb, fun _ => by omega⟩
theorem gr_l0 (l : List (List MetaT)) (next seq : Int) (log : ByteArray) (hl : l.length ≤ 20) : ∀ (d i : Nat), i + d = l.length → ∃ b, Ev (fun k => millhandref16_Great.l0 k (i : Int) l next seq log) b ∧ (b = false → ∀ x ∈ l.drop i, x.length ≤ 100)
  | 0, i, h => ⟨false, Ev.step (fun _ => millhandref16_Great.l0.eq_2 ..) (ev_neg (by omega) (Ev.now _)), fun _ x hx => by rw [List.drop_of_length_le (by omega)] at hx; cases hx⟩
  | d + 1, i, h => by
    have hi : i < l.length := by omega
    obtain ⟨b, ih, hb⟩ := gr_l0 l next seq log hl d (i + 1) (by omega)
    obtain ⟨c, hc, hc2⟩ := gm_ev l[i]
    rw [← rd_lvl l i hi] at hc
    cases c with
    | true => exact ⟨true, Ev.step (fun _ => millhandref16_Great.l0.eq_2 ..) (ev_pos (by omega) (ev_pos (by omega) (Ev.bind hc (ev_pos rfl (Ev.now _))))), fun e => by cases e⟩
    | false =>
      refine ⟨b, Ev.step (fun _ => millhandref16_Great.l0.eq_2 ..) (ev_pos (by omega) (ev_pos (by omega) (Ev.bind hc (ev_neg (by decide) ?_)))), fun e x hx => ?_⟩
      · rw [w64 (by omega) (by omega)]
        exact ih
      · rw [List.drop_eq_getElem_cons hi] at hx
        rcases List.mem_cons.mp hx with rfl | hx
        · exact hc2 rfl
        · exact hb e x hx
theorem great_ev (l : List (List MetaT)) (next seq : Int) (log : ByteArray) : ∃ b, Ev (fun k => millhandref16_Great.f k l next seq log) b ∧ (b = false → l.length ≤ 20 ∧ ∀ x ∈ l, x.length ≤ 100) := by
  unfold millhandref16_Great.f
  by_cases h : (l.length : Int) > 20
  · exact ⟨true, ev_pos h (Ev.step (fun _ => millhandref16_Great.j0.eq_2 ..) (ev_pos rfl (Ev.now _))), fun e => by cases e⟩
  by_cases h2 : (log.size : Int) > 1000
  · exact ⟨true, ev_neg h (Ev.step (fun _ => millhandref16_Great.j0.eq_2 ..) (ev_pos (decide_eq_true h2) (Ev.now _))), fun e => by cases e⟩
  · obtain ⟨b, hb, hb2⟩ := gr_l0 l next seq log (by omega) l.length 0 (by omega)
    exact ⟨b, ev_neg h (Ev.step (fun _ => millhandref16_Great.j0.eq_2 ..) (ev_neg (by simpa using h2) hb)), fun e => ⟨by omega, hb2 e⟩⟩

/-! ### which tables meet -/
def meets (lo hi : ByteArray) (m : MetaT) : Bool := !(Op.bytesLess m.f4.toList lo.toList) && !(Op.bytesLess hi.toList m.f3.toList)
theorem Ov_l0 (lo hi : ByteArray) (l : List MetaT) (hl : l.length ≤ 100000) : ∀ (d i : Nat) (acc : List MetaT), i + d = l.length → acc.length + d ≤ 100000 →
    Ev (fun k => version_Overlap.l0 k lo hi acc l (l.length : Int) (i : Int)) (acc ++ (l.drop i).filter (meets lo hi), 0)
  | 0, i, acc, h, ha => by
    refine Ev.step (fun _ => version_Overlap.l0.eq_2 ..) (ev_neg (by omega) (ev_some ?_))
    rw [List.drop_of_length_le (by omega)]; simp
  | d + 1, i, acc, h, ha => by
    have hi2 : i < l.length := by omega
    refine Ev.step (fun _ => version_Overlap.l0.eq_2 ..) (ev_pos (by omega) (ev_pos (by omega) (ev_pos (by omega) ?_)))
    rw [rd_meta l i hi2, List.drop_eq_getElem_cons hi2, w64 (by omega) (by omega)]
    by_cases h1 : Op.bytesLess l[i].f4.toList lo.toList = true
    · refine ev_pos h1 (ev_eq (Ov_l0 lo hi l hl d (i + 1) acc (by omega) (by omega)) ?_)
      rw [List.filter_cons_of_neg (by simp [meets, h1])]
    by_cases h2 : Op.bytesLess hi.toList l[i].f3.toList = true
    · refine ev_neg h1 (ev_pos h2 (ev_eq (Ov_l0 lo hi l hl d (i + 1) acc (by omega) (by omega)) ?_))
      rw [List.filter_cons_of_neg (by simp [meets, h2])]
    refine ev_neg h1 (ev_neg h2 (ev_pos (by omega) (ev_eq (Ov_l0 lo hi l hl d (i + 1) (acc ++ [l[i]]) (by omega) (by rw [List.length_append, List.length_singleton]; omega)) ?_)))
    rw [List.filter_cons_of_pos (by simp [meets, h1, h2]), List.append_assoc, List.singleton_append]
theorem Twin_l0 (l : List (List MetaT)) (next seq : Int) (log : ByteArray) (hl : l.length ≤ 20) (hm : ∀ x ∈ l, x.length ≤ 100) : ∀ (d i : Nat) (acc : List (List MetaT)), i + d = l.length → acc.length + d ≤ 20 →
    Ev (fun k => millhandref16_Twin.l0 k (i : Int) l next seq log acc next seq log) (acc ++ l.drop i, next, seq, log)
  | 0, i, acc, h, ha => by
    refine Ev.step (fun _ => millhandref16_Twin.l0.eq_2 ..) (ev_neg (by omega) (ev_some ?_))
    rw [List.drop_of_length_le (by omega), List.append_nil]
  | d + 1, i, acc, h, ha => by
    have hi : i < l.length := by omega
    have hx := hm l[i] (List.getElem_mem hi)
    refine Ev.step (fun _ => millhandref16_Twin.l0.eq_2 ..) (ev_pos (by omega) (ev_pos (by omega) (ev_pos (by rw [rd_lvl l i hi, List.length_nil]; omega) (ev_pos (by omega) ?_))))
    rw [rd_lvl l i hi, w64 (by omega) (by omega), List.nil_append]
    refine ev_eq (Twin_l0 l next seq log hl hm d (i + 1) (acc ++ [l[i]]) (by omega) (by rw [List.length_append, List.length_singleton]; omega)) ?_
    rw [List.append_assoc, List.singleton_append, ← List.drop_eq_getElem_cons hi]
theorem Twin_ev (l : List (List MetaT)) (next seq : Int) (log : ByteArray) (hl : l.length ≤ 20) (hm : ∀ x ∈ l, x.length ≤ 100) : Ev (fun k => millhandref16_Twin.f k l next seq log) (l, next, seq, log) := by
  unfold millhandref16_Twin.f
  exact ev_eq (Twin_l0 l next seq log hl hm l.length 0 [] (by omega) (by simpa using hl)) (by simp)
theorem Tables_l0 (l : List (List MetaT)) (next seq : Int) (log : ByteArray) (hl : l.length ≤ 20) : ∀ (d i : Nat) (acc : List MetaT), i + d = l.length → acc.length + (l.drop i).flatten.length ≤ 1000000 →
    Ev (fun k => millhandref16_Tables.l0 k acc (i : Int) l next seq log) (acc ++ (l.drop i).flatten)
  | 0, i, acc, h, ha => by
    refine Ev.step (fun _ => millhandref16_Tables.l0.eq_2 ..) (ev_neg (by omega) (ev_some ?_))
    rw [List.drop_of_length_le (by omega), List.flatten_nil, List.append_nil]
  | d + 1, i, acc, h, ha => by
    have hi : i < l.length := by omega
    rw [List.drop_eq_getElem_cons hi, List.flatten_cons, List.length_append] at ha
    refine Ev.step (fun _ => millhandref16_Tables.l0.eq_2 ..) (ev_pos (by omega) (ev_pos (by omega) (ev_pos (by rw [rd_lvl l i hi]; omega) ?_)))
    rw [rd_lvl l i hi, w64 (by omega) (by omega)]
    refine ev_eq (Tables_l0 l next seq log hl d (i + 1) (acc ++ l[i]) (by omega) (by rw [List.length_append]; omega)) ?_
    rw [List.append_assoc, ← List.flatten_cons, ← List.drop_eq_getElem_cons hi]
theorem Tables_ev (l : List (List MetaT)) (next seq : Int) (log : ByteArray) (hl : l.length ≤ 20) (hm : ∀ x ∈ l, x.length ≤ 100) : Ev (fun k => millhandref16_Tables.f k l next seq log) l.flatten := by
  have hf := flat_le l 100 hm
  unfold millhandref16_Tables.f
  exact ev_eq (Tables_l0 l next seq log hl l.length 0 [] (by omega) (by rw [List.drop_zero, List.length_nil]; omega)) (by rw [List.drop_zero, List.nil_append])
/-! ### which may be, as the document has it -/
theorem refText_f (s : ByteArray) (most : Int) : millhandref16_Text.f s most = some (textS most s) := by
  unfold millhandref16_Text.f textS
  by_cases h : (s.size : Int) > 0
  · rw [if_pos h]
    congr 1
    exact decide_eq_decide.mpr ⟨fun h2 => ⟨by omega, h2⟩, fun h2 => h2.2⟩
  · rw [if_neg h, decide_eq_false (by omega)]
theorem refTable_f (m : MetaT) : millhandref16_Table.f m.f0 m.f1 m.f2 m.f3 m.f4 = some (tableS m) := by
  unfold millhandref16_Table.f tableS leS
  rw [refText_f]
  cases textS 16 m.f0
  · rfl
  simp only [Option.bind_some, if_true, Bool.true_and]
  rw [refText_f]
  cases textS 64 m.f3
  · simp
  simp only [Option.bind_some, if_true, Bool.true_and]
  rw [refText_f]
  cases textS 64 m.f4
  · simp
  simp only [Option.bind_some, if_true, Bool.true_and]
  by_cases h1 : m.f1 > 0
  rotate_left
  · rw [if_neg h1, decide_eq_false (by omega)]; rfl
  rw [if_pos h1]
  by_cases h2 : m.f1 ≤ 16384
  rotate_left
  · rw [if_neg h2, decide_eq_false (by omega)]; rfl
  rw [if_pos h2]
  by_cases h3 : m.f2 > 0
  rotate_left
  · rw [if_neg h3, decide_eq_false (by omega)]; rfl
  rw [if_pos h3]
  by_cases h4 : m.f2 ≤ 65536
  rotate_left
  · rw [if_neg h4, decide_eq_false (by omega)]; rfl
  rw [if_pos h4, decide_eq_true (by omega), Bool.true_and]
def tabsR (log : ByteArray) : List MetaT → List MetaT → Bool
  | _, [] => true
  | seen, m :: r => (tableS m && !(m.f0.toList == log.toList)) && (!(seen.any fun x => decide (x.f0.toList = m.f0.toList)) && tabsR log (seen ++ [m]) r)
def ordR : List MetaT → Bool
  | a :: b :: r => Op.bytesLess a.f4.toList b.f3.toList && ordR (b :: r)
  | _ => true
section
variable (l : List (List MetaT)) (next seq : Int) (log : ByteArray)
theorem May_l3 (n : Nat) (hn : n < l.length) (h4 : l.length = 4) (hx : l[n].length ≤ 100) {b : Bool} (hb : Ev (fun k => millhandref16_May.l2 k ((n + 1 : Nat) : Int) l next seq log) b) : ∀ (d i : Nat), i + 1 + d = l[n].length →
    Ev (fun k => millhandref16_May.l3 k (n : Int) ((i + 1 : Nat) : Int) l next seq log) (ordR (l[n].drop i) && b)
  | 0, i, h => by
    refine Ev.step (fun _ => millhandref16_May.l3.eq_2 ..) (ev_pos (by omega) (ev_pos (by omega) (ev_neg (by rw [rd_lvl l n hn]; omega) ?_)))
    rw [w64 (by omega) (by omega)]
    refine ev_eq hb ?_
    rw [List.drop_eq_getElem_cons (by omega), List.drop_of_length_le (by omega)]
    rfl
  | d + 1, i, h => by
    have ih := May_l3 n hn h4 hx hb d (i + 1) (by omega)
    have hw : wrap64 (((i + 1 : Nat) : Int) - 1) = (i : Int) := by rw [w64 (by omega) (by omega)]; omega
    have hw2 : wrap64 (((i + 1 : Nat) : Int) + 1) = ((i + 1 + 1 : Nat) : Int) := by rw [w64 (by omega) (by omega)]; omega
    refine Ev.step (fun _ => millhandref16_May.l3.eq_2 ..) (ev_pos (by clear hw hw2; omega) (ev_pos (by clear hw hw2; omega) (ev_pos (by rw [rd_lvl l n hn]; clear hw hw2; omega) (ev_pos (by clear hw hw2; omega) ?_))))
    rw [hw, hw2, rd_lvl l n hn, rd_meta l[n] i (by clear hw hw2; omega), rd_meta l[n] (i + 1) (by clear hw hw2; omega)]
    refine ev_pos (by clear hw hw2; omega) (ev_pos (by clear hw hw2; omega) ?_)
    rw [List.drop_eq_getElem_cons (by clear hw hw2; omega), List.drop_eq_getElem_cons (i := i + 1) (by clear hw hw2; omega)]
    by_cases hc : Op.bytesLess l[n][i].f4.toList l[n][i + 1].f3.toList = true
    · refine ev_pos hc (ev_eq ih ?_)
      rw [List.drop_eq_getElem_cons (i := i + 1) (by clear hw hw2; omega)]
      simp [ordR, hc]
    · refine ev_neg hc (ev_some ?_)
      simp [ordR, nless hc]
theorem May_l2 (n : Nat) (hn : n < l.length) (h4 : l.length = 4) (hx : l[n].length ≤ 100) {b : Bool} (hb : Ev (fun k => millhandref16_May.l2 k ((n + 1 : Nat) : Int) l next seq log) b) :
    Ev (fun k => millhandref16_May.l2 k (n : Int) l next seq log) (ordR l[n] && b) := by
  refine Ev.step (fun _ => millhandref16_May.l2.eq_2 ..) (ev_pos (by omega) ?_)
  by_cases h0 : l[n].length = 0
  · refine Ev.step (fun _ => millhandref16_May.l3.eq_2 ..) (ev_pos (by omega) (ev_pos (by omega) (ev_neg (by rw [rd_lvl l n hn]; omega) ?_)))
    rw [w64 (by omega) (by omega)]
    refine ev_eq hb ?_
    rw [List.eq_nil_of_length_eq_zero h0]
    rfl
  · have := May_l3 l next seq log n hn h4 hx hb (l[n].length - 1) 0 (by omega)
    rw [List.drop_zero] at this
    exact this
theorem May_ords (h4 : l.length = 4) (hm : ∀ x ∈ l, x.length ≤ 100) : Ev (fun k => millhandref16_May.l2 k 1 l next seq log) ((l.drop 1).all ordR) := by
  have e4 : Ev (fun k => millhandref16_May.l2 k ((3 + 1 : Nat) : Int) l next seq log) true := Ev.step (fun _ => millhandref16_May.l2.eq_2 ..) (ev_neg (by omega) (Ev.now _))
  have e3 := May_l2 l next seq log 3 (by omega) h4 (hm _ (List.getElem_mem (by omega))) e4
  have e2 := May_l2 l next seq log 2 (by omega) h4 (hm _ (List.getElem_mem (by omega))) e3
  have e1 := May_l2 l next seq log 1 (by omega) h4 (hm _ (List.getElem_mem (by omega))) e2
  refine ev_eq e1 ?_
  rw [List.drop_eq_getElem_cons (by omega), List.drop_eq_getElem_cons (by omega), List.drop_eq_getElem_cons (by omega), List.drop_of_length_le (by omega)]
  simp
theorem May_l1 (t : List MetaT) (ht : t.length ≤ 10000) (i : Nat) (hi : i < t.length) {b : Bool} (hb : Ev (fun k => millhandref16_May.l0 k t ((i + 1 : Nat) : Int) l next seq log) b) : ∀ (d j : Nat), j + d = i →
    Ev (fun k => millhandref16_May.l1 k t (i : Int) (j : Int) l next seq log) (!(((t.take i).drop j).any fun x => decide (x.f0.toList = t[i].f0.toList)) && b)
  | 0, j, h => by
    refine Ev.step (fun _ => millhandref16_May.l1.eq_2 ..) (ev_neg (by omega) ?_)
    rw [w64 (by omega) (by omega)]
    refine ev_eq hb ?_
    rw [List.drop_of_length_le (by rw [List.length_take]; omega)]
    rfl
  | d + 1, j, h => by
    have ih := May_l1 t ht i hi hb d (j + 1) (by omega)
    have hd : (t.take i).drop j = t[j] :: (t.take i).drop (j + 1) := by
      rw [List.drop_eq_getElem_cons (by rw [List.length_take]; omega), List.getElem_take]
    refine Ev.step (fun _ => millhandref16_May.l1.eq_2 ..) (ev_pos (by omega) (ev_pos (by omega) (ev_pos (by omega) (ev_pos (by omega) (ev_pos (by omega) ?_)))))
    rw [rd_meta t j (by omega), rd_meta t i hi, w64 (by omega) (by omega), hd]
    by_cases hc : t[j].f0.toList = t[i].f0.toList
    · refine ev_pos hc (ev_some ?_)
      simp [hc]
    · refine ev_neg hc (ev_eq ih ?_)
      simp [hc]
theorem May_l0 (t : List MetaT) (ht : t.length ≤ 10000) {b : Bool} (hb : Ev (fun k => millhandref16_May.l2 k 1 l next seq log) b) : ∀ (d i : Nat), i + d = t.length →
    Ev (fun k => millhandref16_May.l0 k t (i : Int) l next seq log) (tabsR log (t.take i) (t.drop i) && b)
  | 0, i, h => by
    refine Ev.step (fun _ => millhandref16_May.l0.eq_2 ..) (ev_neg (by omega) (ev_eq hb ?_))
    rw [List.drop_of_length_le (by omega)]
    rfl
  | d + 1, i, h => by
    have hi : i < t.length := by omega
    have ih := May_l0 t ht hb d (i + 1) (by omega)
    have h1 := May_l1 l next seq log t ht i hi ih i 0 (by omega)
    rw [List.drop_zero] at h1
    have hj : ∀ x : Bool, Ev (fun k => millhandref16_May.j2 k t (i : Int) x l next seq log) (!x && (!((t.take i).any fun x => decide (x.f0.toList = t[i].f0.toList)) && (tabsR log (t.take (i + 1)) (t.drop (i + 1)) && b))) := by
      intro x
      cases x with
      | true => exact Ev.step (fun _ => millhandref16_May.j2.eq_2 ..) (ev_pos rfl (Ev.now _))
      | false => exact Ev.step (fun _ => millhandref16_May.j2.eq_2 ..) (ev_neg (by decide) (by simpa using h1))
    refine Ev.step (fun _ => millhandref16_May.l0.eq_2 ..) (ev_pos (by omega) (ev_pos (by omega) ?_))
    rw [rd_meta t i hi, List.drop_eq_getElem_cons hi]
    refine Ev.bind (a := tableS t[i]) (by rw [refTable_f]; exact Ev.now _) ?_
    have hs : t.take i ++ [t[i]] = t.take (i + 1) := by rw [List.take_succ_eq_append_getElem hi]
    unfold tabsR
    rw [hs]
    cases tableS t[i] with
    | true =>
      refine ev_pos rfl (ev_eq (hj _) ?_)
      simp [Bool.and_assoc]
    | false =>
      refine ev_neg (by decide) (ev_eq (hj _) ?_)
      simp
end
def mayR (l : List (List MetaT)) (next seq : Int) (log : ByteArray) : Bool := headS l next seq log && (tabsR log [] l.flatten && (l.drop 1).all ordR)
theorem May_ev (l : List (List MetaT)) (next seq : Int) (log : ByteArray) (hl : l.length ≤ 20) (hm : ∀ x ∈ l, x.length ≤ 100) : Ev (fun k => millhandref16_May.f k l next seq log) (mayR l next seq log) := by
  have hf := flat_le l 100 hm
  unfold millhandref16_May.f mayR headS
  by_cases h4 : l.length = 4
  rotate_left
  · refine ev_neg (by omega) (ev_eq (Ev.step (fun _ => millhandref16_May.j0.eq_2 ..) (ev_pos rfl (Ev.now _))) ?_)
    rw [decide_eq_false h4]
    rfl
  have hj : Ev (fun k => millhandref16_May.j0 k false l next seq log) (tabsR log [] l.flatten && (l.drop 1).all ordR) := by
    refine Ev.step (fun _ => millhandref16_May.j0.eq_2 ..) (ev_neg (by decide) (Ev.bind (Tables_ev l next seq log hl hm) ?_))
    have := May_l0 l next seq log l.flatten (by omega) (May_ords l next seq log h4 hm) l.flatten.length 0 (by omega)
    simpa using this
  have hk : Ev (fun k => millhandref16_May.j0 k true l next seq log) false := Ev.step (fun _ => millhandref16_May.j0.eq_2 ..) (ev_pos rfl (Ev.now _))
  refine ev_pos (by omega) (Ev.bind (a := textS 16 log) (by rw [refText_f]; exact Ev.now _) ?_)
  rw [decide_eq_true h4]
  cases textS 16 log with
  | false => exact ev_neg (by decide) hk
  | true =>
    refine ev_pos rfl ?_
    by_cases c1 : next < 1
    · refine ev_pos c1 (ev_eq hk ?_)
      rw [decide_eq_false (by omega)]; rfl
    by_cases c2 : next > 1099511627776
    · refine ev_neg c1 (ev_pos c2 (ev_eq hk ?_))
      rw [decide_eq_false (by omega)]; rfl
    by_cases c3 : seq < 0
    · refine ev_neg c1 (ev_neg c2 (ev_pos c3 (ev_eq hk ?_)))
      rw [decide_eq_false (by omega)]; rfl
    by_cases c4 : seq > 1099511627776
    · refine ev_neg c1 (ev_neg c2 (ev_neg c3 ?_))
      rw [decide_eq_true c4, decide_eq_false (by omega)]
      exact hk
    · refine ev_neg c1 (ev_neg c2 (ev_neg c3 ?_))
      rw [decide_eq_false c4, decide_eq_true (by omega)]
      simpa using hj
/-! ### the two are one -/
def tabsN : List ByteArray → List MetaT → Bool
  | _, [] => true
  | names, m :: r => tableS m && (!(inS names m.f0) && tabsN (m.f0 :: names) r)
def namesN (names : List ByteArray) (l : List MetaT) : List ByteArray := (l.map fun m => m.f0).reverse ++ names
def ordP (prev : Option ByteArray) : List MetaT → Bool
  | [] => true
  | m :: r => !(overS prev m) && ordP (some m.f4) r
theorem ordP_some (x : MetaT) : ∀ r, ordP (some x.f4) r = ordR (x :: r)
  | [] => rfl
  | b :: r => by
    unfold ordP ordR
    rw [ordP_some b r]
    simp [overS, leS]
theorem ordP_none : ∀ r, ordP none r = ordR r
  | [] => rfl
  | b :: r => by
    unfold ordP
    rw [ordP_some b r]
    simp [overS]
theorem lvlS_eq (k : Nat) : ∀ (l : List MetaT) (prev : Option ByteArray) (names : List ByteArray), lvlS k prev names l = if (tabsN names l && (decide (k = 0) || ordP prev l)) = true then some (namesN names l) else none
  | [], prev, names => by simp [lvlS, tabsN, ordP, namesN]
  | m :: r, prev, names => by
    have ih := lvlS_eq k r (some m.f4) (m.f0 :: names)
    have hn : namesN names (m :: r) = namesN (m.f0 :: names) r := by simp [namesN]
    unfold lvlS tabsN ordP okS
    rw [ih, hn]
    by_cases h0 : k = 0
    · subst h0
      cases tableS m <;> cases inS names m.f0 <;> simp
    · have h1 : 0 < k := by omega
      simp only [decide_eq_true h1, decide_eq_false h0, Bool.true_and, Bool.false_or]
      cases tableS m <;> cases inS names m.f0 <;> cases overS prev m <;> simp
theorem tabsN_append (names : List ByteArray) : ∀ (a b : List MetaT), tabsN names (a ++ b) = (tabsN names a && tabsN (namesN names a) b)
  | [], b => by simp [tabsN, namesN]
  | m :: a, b => by
    have ih := tabsN_append (m.f0 :: names) a b
    have hn : namesN names (m :: a) = namesN (m.f0 :: names) a := by simp [namesN]
    simp only [List.cons_append, tabsN]
    rw [ih, hn]
    simp [Bool.and_assoc]
  termination_by a => a.length
theorem lvlsS_eq : ∀ (l : List (List MetaT)) (k : Nat) (names : List ByteArray), 0 < k → lvlsS k names l = (tabsN names l.flatten && l.all ordR)
  | [], k, names, _ => by simp [lvlsS, tabsN]
  | x :: l, k, names, hk => by
    unfold lvlsS
    rw [lvlS_eq, List.flatten_cons, tabsN_append, List.all_cons, decide_eq_false (show ¬ k = 0 by omega), Bool.false_or, ordP_none]
    cases tabsN names x <;> cases ordR x <;> simp [lvlsS_eq l (k + 1) (namesN names x) (by omega)]
theorem lvls0_eq (l : List (List MetaT)) (names : List ByteArray) : lvlsS 0 names l = (tabsN names l.flatten && (l.drop 1).all ordR) := by
  cases l with
  | nil => simp [lvlsS, tabsN]
  | cons x l =>
    unfold lvlsS
    rw [lvlS_eq, List.flatten_cons, tabsN_append, decide_eq_true (rfl : 0 = 0), Bool.true_or, Bool.and_true]
    cases tabsN names x <;> simp [lvlsS_eq l 1 (namesN names x) (by omega)]
theorem inS_seen (log : ByteArray) (m : MetaT) : ∀ seen : List MetaT, inS (namesN [log] seen) m.f0 = ((m.f0.toList == log.toList) || seen.any fun x => decide (x.f0.toList = m.f0.toList)) := by
  intro seen
  unfold namesN inS
  rw [List.any_append, List.any_reverse, List.any_map, Bool.or_comm]
  congr 1
  · rw [Bool.eq_iff_iff]
    simp [ByteArray.toList_eq]
    exact ⟨fun h => h.symm, fun h => h.symm⟩
  · congr 1
    funext x
    simp [ByteArray.toList_eq]
theorem tabsR_eq (log : ByteArray) : ∀ (r seen : List MetaT), tabsR log seen r = tabsN (namesN [log] seen) r
  | [], seen => rfl
  | m :: r, seen => by
    unfold tabsR tabsN
    have hn : namesN [log] (seen ++ [m]) = m.f0 :: namesN [log] seen := by simp [namesN]
    rw [tabsR_eq log r (seen ++ [m]), hn, inS_seen]
    cases tableS m <;> cases (m.f0.toList == log.toList) <;> simp
theorem mayR_eq (l : List (List MetaT)) (next seq : Int) (log : ByteArray) : mayR l next seq log = mayV l next seq log := by
  unfold mayR mayV
  rw [lvls0_eq, tabsR_eq]
  rfl
def chkS (l : List (List MetaT)) (next seq : Int) (log : ByteArray) : Int := if l.flatten.length > 32 then 4 else if mayV l next seq log = true then 0 else 8
theorem refCheck_ev (l : List (List MetaT)) (next seq : Int) (log : ByteArray) (hl : l.length ≤ 20) (hm : ∀ x ∈ l, x.length ≤ 100) : Ev (fun k => millhandref16_Check.f k l next seq log) (chkS l next seq log) := by
  unfold millhandref16_Check.f chkS
  refine Ev.bind (Tables_ev l next seq log hl hm) (ev_ite' (by omega) (fun _ => Ev.now _) fun _ => Ev.bind (May_ev l next seq log hl hm) ?_)
  rw [mayR_eq]
  exact ev_ite (fun _ => Ev.now _) (fun _ => Ev.now _)
theorem chkS_zero {l : List (List MetaT)} {next seq : Int} {log : ByteArray} (h : chkS l next seq log = 0) : l.flatten.length ≤ 32 ∧ mayV l next seq log = true := by
  unfold chkS at h
  split at h
  · cases h
  · split at h
    · exact ⟨by omega, by assumption⟩
    · cases h
theorem mayV_len {l : List (List MetaT)} {next seq : Int} {log : ByteArray} (h : mayV l next seq log = true) : l.length = 4 := by
  unfold mayV headS at h
  simp only [Bool.and_eq_true, decide_eq_true_eq] at h
  exact h.1.1
theorem Meet_l0 (l : List MetaT) (hl : l.length ≤ 100000) (lo hi : ByteArray) : ∀ (d i : Nat) (acc : List MetaT), i + d = l.length → acc.length + d ≤ 100000 →
    Ev (fun k => millhandref16_Meet.l0 k l lo hi acc (i : Int)) (acc ++ (l.drop i).filter (meets lo hi))
  | 0, i, acc, h, ha => by
    refine Ev.step (fun _ => millhandref16_Meet.l0.eq_2 ..) (ev_neg (by omega) (ev_some ?_))
    rw [List.drop_of_length_le (by omega)]; simp
  | d + 1, i, acc, h, ha => by
    have hi2 : i < l.length := by omega
    refine Ev.step (fun _ => millhandref16_Meet.l0.eq_2 ..) (ev_pos (by omega) (ev_pos (by omega) ?_))
    rw [rd_meta l i hi2, List.drop_eq_getElem_cons hi2, w64 (by omega) (by omega)]
    by_cases h1 : Op.bytesLess l[i].f4.toList lo.toList = true
    · refine ev_pos h1 (ev_eq (Meet_l0 l hl lo hi d (i + 1) acc (by omega) (by omega)) ?_)
      rw [List.filter_cons_of_neg (by simp [meets, h1])]
    by_cases h2 : Op.bytesLess hi.toList l[i].f3.toList = true
    · refine ev_neg h1 (ev_pos h2 (ev_eq (Meet_l0 l hl lo hi d (i + 1) acc (by omega) (by omega)) ?_))
      rw [List.filter_cons_of_neg (by simp [meets, h2])]
    refine ev_neg h1 (ev_neg h2 (ev_pos (by omega) (ev_eq (Meet_l0 l hl lo hi d (i + 1) (acc ++ [l[i]]) (by omega) (by rw [List.length_append, List.length_singleton]; omega)) ?_)))
    rw [List.filter_cons_of_pos (by simp [meets, h1, h2]), List.append_assoc, List.singleton_append]
theorem Meet_ev (l : List MetaT) (hl : l.length ≤ 100000) (lo hi : ByteArray) : Ev (fun k => millhandref16_Meet.f k l lo hi) (l.filter (meets lo hi)) := by
  unfold millhandref16_Meet.f
  exact ev_eq (Meet_l0 l hl lo hi l.length 0 [] (by omega) (by simpa using hl)) (by simp)
theorem SameMetas_l0 (l : List MetaT) (hl : l.length ≤ 100000) : ∀ (d i : Nat), i + d = l.length → Ev (fun k => millhandref16_SameMetas.l0 k l l (i : Int)) true
  | 0, i, h => Ev.step (fun _ => millhandref16_SameMetas.l0.eq_2 ..) (ev_neg (by omega) (Ev.now _))
  | d + 1, i, h => by
    refine Ev.step (fun _ => millhandref16_SameMetas.l0.eq_2 ..) (ev_pos (by omega) (ev_pos (by omega) (ev_pos (by omega) (ev_neg (by simp) ?_))))
    rw [w64 (by omega) (by omega)]
    exact SameMetas_l0 l hl d (i + 1) (by omega)
theorem SameMetas_ev (l : List MetaT) (hl : l.length ≤ 100000) : Ev (fun k => millhandref16_SameMetas.f k l l) true := by
  unfold millhandref16_SameMetas.f
  exact ev_pos rfl (SameMetas_l0 l hl l.length 0 (by omega))
theorem Same_l0 (l : List (List MetaT)) (next seq : Int) (log : ByteArray) (hl : l.length ≤ 20) (hm : ∀ x ∈ l, x.length ≤ 100) : ∀ (d i : Nat), i + d = l.length → Ev (fun k => millhandref16_Same.l0 k (i : Int) l next seq log l next seq log) true
  | 0, i, h => Ev.step (fun _ => millhandref16_Same.l0.eq_2 ..) (ev_neg (by omega) (Ev.now _))
  | d + 1, i, h => by
    have hi : i < l.length := by omega
    have hx := hm l[i] (List.getElem_mem hi)
    refine Ev.step (fun _ => millhandref16_Same.l0.eq_2 ..) (ev_pos (by omega) (ev_pos (by omega) (ev_pos (by omega) ?_)))
    rw [rd_lvl l i hi, w64 (by omega) (by omega)]
    exact Ev.bind (SameMetas_ev l[i] (by omega)) (ev_pos rfl (Same_l0 l next seq log hl hm d (i + 1) (by omega)))
theorem Same_ev (l : List (List MetaT)) (next seq : Int) (log : ByteArray) (hl : l.length ≤ 20) (hm : ∀ x ∈ l, x.length ≤ 100) : Ev (fun k => millhandref16_Same.f k l next seq log l next seq log) true := by
  unfold millhandref16_Same.f
  refine ev_pos rfl (ev_pos rfl (ev_pos rfl (Ev.step (fun _ => millhandref16_Same.j0.eq_2 ..) (ev_neg (by simp) ?_))))
  exact Same_l0 l next seq log hl hm l.length 0 (by omega)
end Go.Proofs.Ytdlghckcbbjipaa.R

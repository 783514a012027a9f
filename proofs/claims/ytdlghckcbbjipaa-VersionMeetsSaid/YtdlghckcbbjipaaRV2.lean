/- Which tables meet keys, in plain words. -/
import Derived.Test.YtdlghckcbbjipaaRx2
import Derived.Test.YtdlghckcbbjipaaRx3
import Derived.Test.YtdlghckcbbjipaaRx4
import Derived.Test.YtdlghckcbbjipaaRx7
import Derived.Test.YtdlghckcbbjipaaRx8
import Derived.Test.YtdlghckcbbjipaaRx9
import Derived.Test.YtdlghckcbbjipaaRV1
import Derived.Test.YtdlghckcbbjipaaROp
import Derived.Test.YtdlghckcbbjipaaOrd
import Derived.Test.YtdlghckcbbjipaaMx
namespace Go.Proofs.Ytdlghckcbbjipaa.R
open Go.RowKit Go.Proofs.YtdlghckcbbjipaaW.PrintWords Go.Proofs.YtdlghckcbbjipaaW.PrintLast Go.Proofs.YtdlghckcbbjipaaW.PrintMore Go.Proofs.Ytdlghckcbbjipaa.Plain Go.Proofs.Ytdlghckcbbjipaa.Opens Go.Proofs.Ytdlghckcbbjipaa.Mx
set_option linter.unusedVariables false
set_option linter.unusedSimpArgs false
/-! ### the order of texts -/
theorem less_iff {x y : UInt8} {a b : List UInt8} : Op.bytesLess (x :: a) (y :: b) = true ↔ x.toNat < y.toNat ∨ (x = y ∧ Op.bytesLess a b = true) := by
  show (decide (x < y) || (x == y && Op.bytesLess a b)) = true ↔ _
  rw [Bool.or_eq_true, Bool.and_eq_true, decide_eq_true_eq, beq_iff_eq, UInt8.lt_iff_toNat_lt]
theorem less_trans : ∀ a b c : List UInt8, Op.bytesLess a b = true → Op.bytesLess b c = true → Op.bytesLess a c = true
  | [], [], _, h, _ => by cases h
  | [], y :: b, [], _, h => by cases h
  | [], y :: b, z :: c, _, _ => rfl
  | x :: a, [], _, h, _ => by cases h
  | x :: a, y :: b, [], _, h => by cases h
  | x :: a, y :: b, z :: c, h1, h2 => by
    refine less_iff.mpr ?_
    rcases less_iff.mp h1 with g1 | ⟨e1, g1⟩ <;> rcases less_iff.mp h2 with g2 | ⟨e2, g2⟩
    · exact Or.inl (by omega)
    · subst e2; exact Or.inl g1
    · subst e1; exact Or.inl g2
    · subst e1 e2; exact Or.inr ⟨rfl, less_trans a b c g1 g2⟩
theorem ge_trans {a b c : List UInt8} (h1 : Op.bytesLess b a = false) (h2 : Op.bytesLess c b = false) : Op.bytesLess c a = false := by
  cases h : Op.bytesLess c a
  · rfl
  · have h3 := Ord.not_le_ b c
    rw [h2] at h3
    have h4 : Op.bytesLess b c = true ∨ b = c := by
      cases hb : Op.bytesLess b c
      · right; simpa [hb] using h3
      · left; rfl
    rcases h4 with hb | e
    · rw [less_trans _ _ _ hb h] at h1; exact h1
    · rw [e, h] at h1; exact h1
theorem nless {a b : List UInt8} (h : ¬ Op.bytesLess a b = true) : Op.bytesLess a b = false := by simpa using h
theorem text_eq {a b : ByteArray} (h : a.toList = b.toList) : a = b := by
  rw [ByteArray.toList_eq, ByteArray.toList_eq] at h
  cases a
  cases b
  simp only [Array.toList_inj] at h
  rw [h]

/-! ### reads -/
theorem rd_meta (l : List MetaT) (i : Nat) (hi : i < l.length) : rd_T32 l (i : Int) = l[i] := by simp [rd_T32, List.getD_eq_getElem?_getD, List.getElem?_eq_getElem hi]
theorem rd_lvl (l : List (List MetaT)) (i : Nat) (hi : i < l.length) : rd_L3 l (i : Int) = l[i] := by simp [rd_L3, List.getD_eq_getElem?_getD, List.getElem?_eq_getElem hi]

/-! ### how many tables -/
theorem many_l0 (l : List (List MetaT)) : ∀ (d i s : Nat), i + d = l.length → s + (l.drop i).flatten.length ≤ 1000000 → l.length ≤ 20 →
    Ev (fun k => version_many.l0 k (s : Int) l (l.length : Int) (i : Int)) ((s + (l.drop i).flatten.length : Nat) : Int)
  | 0, i, s, h, hs, hl => by
    refine Ev.step (fun _ => version_many.l0.eq_2 ..) (ev_neg (by omega) (ev_some ?_))
    rw [List.drop_of_length_le (by omega)]; simp
  | d + 1, i, s, h, hs, hl => by
    have hi : i < l.length := by omega
    rw [List.drop_eq_getElem_cons hi, List.flatten_cons, List.length_append] at hs
    refine Ev.step (fun _ => version_many.l0.eq_2 ..) (ev_pos (by omega) (ev_pos (by omega) (ev_pos (by omega) ?_)))
    rw [rd_lvl l i hi, w64 (i := (i : Int) + 1) (by omega) (by omega), w64 (by omega) (by omega)]
    have ih := many_l0 l d (i + 1) (s + l[i].length) (by omega) (by omega) hl
    rw [List.drop_eq_getElem_cons hi, List.flatten_cons, List.length_append]
    refine ev_eq ih ?_
    congr 1; omega
theorem flat_le (l : List (List MetaT)) (b : Nat) (h : ∀ x ∈ l, x.length ≤ b) : l.flatten.length ≤ l.length * b := by
  induction l with
  | nil => simp
  | cons x l ih =>
    have h1 := h x (List.mem_cons_self ..)
    have h2 := ih fun y hy => h y (List.mem_cons_of_mem _ hy)
    rw [List.flatten_cons, List.length_append, List.length_cons, Nat.succ_mul]
    omega
theorem many_ev (l : List (List MetaT)) (next seq : Int) (log : ByteArray) (hl : l.length ≤ 20) (hm : ∀ x ∈ l, x.length ≤ 100) : Ev (fun k => version_many.f k l next seq log) (l.flatten.length : Int) := by
  have hf := flat_le l 100 hm
  unfold version_many.f
  have := many_l0 l l.length 0 0 (by omega) (by rw [List.drop_zero]; omega) hl
  simpa using this
theorem Check_ev (l : List (List MetaT)) (next seq : Int) (log : ByteArray) (hl : l.length ≤ 20) (hm : ∀ x ∈ l, x.length ≤ 100) :
    Ev (fun k => version_Check.f k l next seq log) (if l.flatten.length > 32 then 4 else if mayV l next seq log = true then 0 else 8) := by
  have hf := flat_le l 100 hm
  unfold version_Check.f
  refine Ev.bind (many_ev l next seq log hl hm) (ev_ite' (by omega) (fun _ => Ev.now _) fun _ => ?_)
  refine Ev.bind (a := mayV l next seq log) ?_ (ev_ite (fun _ => Ev.now _) (fun _ => Ev.now _))
  unfold version_may.f
  rw [if_pos (by omega)]
  exact Ev.now _

/-! ### greatness -/
theorem gm_l0 (l : List MetaT) (hl : l.length ≤ 100) : ∀ (d i : Nat), i + d = l.length → ∃ b, Ev (fun k => millhandref16_GreatMetas.l0 k l (i : Int)) b
  | 0, i, h => ⟨false, Ev.step (fun _ => millhandref16_GreatMetas.l0.eq_2 ..) (ev_neg (by omega) (Ev.now _))⟩
  | d + 1, i, h => by
    obtain ⟨b, ih⟩ := gm_l0 l hl d (i + 1) (by omega)
    have hw : wrap64 ((i : Int) + 1) = ((i + 1 : Nat) : Int) := w64 (by omega) (by omega)
    by_cases h1 : ((rd_T32 l (i : Int)).f0.size : Int) > 1000
    · exact ⟨true, Ev.step (fun _ => millhandref16_GreatMetas.l0.eq_2 ..) (ev_pos (by clear hw; omega) (ev_pos (by clear hw; omega) (ev_pos h1 (Ev.now _))))⟩
    by_cases h2 : ((rd_T32 l (i : Int)).f3.size : Int) > 1000
    · exact ⟨true, Ev.step (fun _ => millhandref16_GreatMetas.l0.eq_2 ..) (ev_pos (by clear hw; omega) (ev_pos (by clear hw; omega) (ev_neg h1 (ev_pos h2 (Ev.now _)))))⟩
    by_cases h3 : ((rd_T32 l (i : Int)).f4.size : Int) > 1000
    · exact ⟨true, Ev.step (fun _ => millhandref16_GreatMetas.l0.eq_2 ..) (ev_pos (by clear hw; omega) (ev_pos (by clear hw; omega) (ev_neg h1 (ev_neg h2 (ev_pos h3 (Ev.now _))))))⟩
    refine ⟨b, Ev.step (fun _ => millhandref16_GreatMetas.l0.eq_2 ..) (ev_pos (by clear hw; omega) (ev_pos (by clear hw; omega) (ev_neg h1 (ev_neg h2 (ev_neg h3 ?_)))))⟩
    rw [hw]
    exact ih
theorem gm_ev (l : List MetaT) : ∃ b, Ev (fun k => millhandref16_GreatMetas.f k l) b ∧ (b = false → l.length ≤ 100) := by
  unfold millhandref16_GreatMetas.f
  by_cases h : (l.length : Int) > 100
  · exact ⟨true, ev_pos h (Ev.now _), fun e => by cases e⟩
  · obtain ⟨b, hb⟩ := gm_l0 l (by omega) l.length 0 (by omega)
    exact ⟨b, ev_neg h hb, fun _ => by omega⟩
theorem gr_l0 (l : List (List MetaT)) (next seq : Int) (log : ByteArray) (hl : l.length ≤ 20) : ∀ (d i : Nat), i + d = l.length → ∃ b, Ev (fun k => millhandref16_Great.l0 k (i : Int) l next seq log) b ∧ (b = false → ∀ x ∈ l.drop i, x.length ≤ 100)
  | 0, i, h => ⟨false, Ev.step (fun _ => millhandref16_Great.l0.eq_2 ..) (ev_neg (by omega) (Ev.now _)), fun _ x hx => by rw [List.drop_of_length_le (by omega)] at hx; cases hx⟩
  | d + 1, i, h => by
    have hi : i < l.length := by omega
    obtain ⟨b, ih, hb⟩ := gr_l0 l next seq log hl d (i + 1) (by omega)
    obtain ⟨c, hc, hc2⟩ := gm_ev l[i]
    rw [← rd_lvl l i hi] at hc
    cases c with
    | true => exact ⟨true, Ev.step (fun _ => millhandref16_Great.l0.eq_2 ..) (ev_pos (by omega) (ev_pos (by omega) (Ev.bind hc (ev_pos rfl (Ev.now _))))), fun e => by cases e⟩
    | false =>
      refine ⟨b, Ev.step (fun _ => millhandref16_Great.l0.eq_2 ..) (ev_pos (by omega) (ev_pos (by omega) (Ev.bind hc (ev_neg (by decide) ?_)))), fun e x hx => ?_⟩
      · rw [w64 (by omega) (by omega)]
        exact ih
      · rw [List.drop_eq_getElem_cons hi] at hx
        rcases List.mem_cons.mp hx with rfl | hx
        · exact hc2 rfl
        · exact hb e x hx
theorem great_ev (l : List (List MetaT)) (next seq : Int) (log : ByteArray) : ∃ b, Ev (fun k => millhandref16_Great.f k l next seq log) b ∧ (b = false → l.length ≤ 20 ∧ ∀ x ∈ l, x.length ≤ 100) := by
  unfold millhandref16_Great.f
  by_cases h : (l.length : Int) > 20
  · exact ⟨true, ev_pos h (Ev.step (fun _ => millhandref16_Great.j0.eq_2 ..) (ev_pos rfl (Ev.now _))), fun e => by cases e⟩
  by_cases h2 : (log.size : Int) > 1000
  · exact ⟨true, ev_neg h (Ev.step (fun _ => millhandref16_Great.j0.eq_2 ..) (ev_pos (decide_eq_true h2) (Ev.now _))), fun e => by cases e⟩
  · obtain ⟨b, hb, hb2⟩ := gr_l0 l next seq log (by omega) l.length 0 (by omega)
    exact ⟨b, ev_neg h (Ev.step (fun _ => millhandref16_Great.j0.eq_2 ..) (ev_neg (by simpa using h2) hb)), fun e => ⟨by omega, hb2 e⟩⟩

/-! ### which tables meet -/
def meets (lo hi : ByteArray) (m : MetaT) : Bool := !(Op.bytesLess m.f4.toList lo.toList) && !(Op.bytesLess hi.toList m.f3.toList)
theorem Ov_l0 (lo hi : ByteArray) (l : List MetaT) (hl : l.length ≤ 100000) : ∀ (d i : Nat) (acc : List MetaT), i + d = l.length → acc.length + d ≤ 100000 →
    Ev (fun k => version_Overlap.l0 k lo hi acc l (l.length : Int) (i : Int)) (acc ++ (l.drop i).filter (meets lo hi), 0)
  | 0, i, acc, h, ha => by
    refine Ev.step (fun _ => version_Overlap.l0.eq_2 ..) (ev_neg (by omega) (ev_some ?_))
    rw [List.drop_of_length_le (by omega)]; simp
  | d + 1, i, acc, h, ha => by
    have hi2 : i < l.length := by omega
    refine Ev.step (fun _ => version_Overlap.l0.eq_2 ..) (ev_pos (by omega) (ev_pos (by omega) (ev_pos (by omega) ?_)))
    rw [rd_meta l i hi2, List.drop_eq_getElem_cons hi2, w64 (by omega) (by omega)]
    by_cases h1 : Op.bytesLess l[i].f4.toList lo.toList = true
    · refine ev_pos h1 (ev_eq (Ov_l0 lo hi l hl d (i + 1) acc (by omega) (by omega)) ?_)
      rw [List.filter_cons_of_neg (by simp [meets, h1])]
    by_cases h2 : Op.bytesLess hi.toList l[i].f3.toList = true
    · refine ev_neg h1 (ev_pos h2 (ev_eq (Ov_l0 lo hi l hl d (i + 1) acc (by omega) (by omega)) ?_))
      rw [List.filter_cons_of_neg (by simp [meets, h2])]
    refine ev_neg h1 (ev_neg h2 (ev_pos (by omega) (ev_eq (Ov_l0 lo hi l hl d (i + 1) (acc ++ [l[i]]) (by omega) (by rw [List.length_append, List.length_singleton]; omega)) ?_)))
    rw [List.filter_cons_of_pos (by simp [meets, h1, h2]), List.append_assoc, List.singleton_append]
theorem Overlap_ev (l : List (List MetaT)) (next seq : Int) (log : ByteArray) (hl : l.length ≤ 20) (hm : ∀ x ∈ l, x.length ≤ 100) (lv : Int) (lo hi : ByteArray) :
    (∃ e, e ≠ 0 ∧ Ev (fun k => version_Overlap.f k l next seq log lv lo hi) ([], e)) ∨
    (∃ a : Nat, lv = (a : Int) ∧ ∃ h : a < l.length, mayV l next seq log = true ∧ Ev (fun k => version_Overlap.f k l next seq log lv lo hi) (l[a].filter (meets lo hi), 0)) := by
  have hc := Check_ev l next seq log hl hm
  unfold version_Overlap.f
  by_cases h1 : l.flatten.length > 32
  · rw [if_pos h1] at hc
    exact Or.inl ⟨4, by decide, Ev.bind hc (ev_neg (by decide) (Ev.now _))⟩
  rw [if_neg h1] at hc
  by_cases h2 : mayV l next seq log = true
  rotate_left
  · rw [if_neg h2] at hc
    exact Or.inl ⟨8, by decide, Ev.bind hc (ev_neg (by decide) (Ev.now _))⟩
  rw [if_pos h2] at hc
  have h4 : l.length = 4 := by
    unfold mayV headS at h2
    simp only [Bool.and_eq_true, decide_eq_true_eq] at h2
    exact h2.1.1
  by_cases h5 : lv < 0
  · exact Or.inl ⟨2, by decide, Ev.bind hc (ev_pos rfl (ev_pos h5 (Ev.step (fun _ => version_Overlap.j0.eq_2 ..) (ev_pos (decide_eq_true h5) (Ev.now _)))))⟩
  by_cases h6 : lv ≥ 4
  · exact Or.inl ⟨2, by decide, Ev.bind hc (ev_pos rfl (ev_neg h5 (Ev.step (fun _ => version_Overlap.j0.eq_2 ..) (ev_pos (decide_eq_true h6) (Ev.now _)))))⟩
  have hw1 : Ev (fun _ => version_within.f lo 64) (textS 64 lo) := by rw [within_f]; exact Ev.now _
  have hw2 : Ev (fun _ => version_within.f hi 64) (textS 64 hi) := by rw [within_f]; exact Ev.now _
  cases h7 : textS 64 lo with
  | false =>
    rw [h7] at hw1
    exact Or.inl ⟨3, by decide, Ev.bind hc (ev_pos rfl (ev_neg h5 (Ev.step (fun _ => version_Overlap.j0.eq_2 ..) (ev_neg (by simpa using h6) (Ev.bind hw1 (ev_neg (by decide) (Ev.now _)))))))⟩
  | true =>
    rw [h7] at hw1
    cases h8 : textS 64 hi with
    | false =>
      rw [h8] at hw2
      exact Or.inl ⟨3, by decide, Ev.bind hc (ev_pos rfl (ev_neg h5 (Ev.step (fun _ => version_Overlap.j0.eq_2 ..) (ev_neg (by simpa using h6) (Ev.bind hw1 (ev_pos rfl (Ev.bind hw2 (ev_neg (by decide) (Ev.now _)))))))))⟩
    | true =>
      rw [h8] at hw2
      obtain ⟨a, rfl⟩ : ∃ a : Nat, lv = (a : Int) := ⟨lv.toNat, by omega⟩
      have ha : a < l.length := by omega
      refine Or.inr ⟨a, rfl, ha, h2, Ev.bind hc (ev_pos rfl (ev_neg h5 (Ev.step (fun _ => version_Overlap.j0.eq_2 ..) (ev_neg (by simpa using h6) (Ev.bind hw1 (ev_pos rfl (Ev.bind hw2 (ev_pos rfl (ev_pos (by omega) (ev_pos (by omega) ?_))))))))))⟩
      rw [rd_lvl l a ha]
      have hx := hm l[a] (List.getElem_mem ha)
      have := Ov_l0 lo hi l[a] (by omega) l[a].length 0 [] (by omega) (by simp; omega)
      simpa using this

/-! ### where a table stands -/
def eqM (a b : MetaT) : Bool := a.f0.toList == b.f0.toList && (a.f1 == b.f1 && (a.f2 == b.f2 && (a.f3.toList == b.f3.toList && a.f4.toList == b.f4.toList)))
theorem eqM_refl (a : MetaT) : eqM a a = true := by simp [eqM]
theorem eqM_name {a b : MetaT} (h : eqM a b = true) : a.f0 = b.f0 := by
  unfold eqM at h
  simp only [Bool.and_eq_true, beq_iff_eq] at h
  exact text_eq h.1
theorem in_l0 (l : List MetaT) (hl : l.length ≤ 100000) (m : MetaT) : ∀ (d i : Nat), i + d = l.length → Ev (fun k => millhandlaw16_in.l0 k l (i : Int) m.f0 m.f1 m.f2 m.f3 m.f4) ((l.drop i).any fun x => eqM x m)
  | 0, i, h => by
    refine Ev.step (fun _ => millhandlaw16_in.l0.eq_2 ..) (ev_neg (by omega) (ev_some ?_))
    rw [List.drop_of_length_le (by omega)]; rfl
  | d + 1, i, h => by
    have hi : i < l.length := by omega
    refine Ev.step (fun _ => millhandlaw16_in.l0.eq_2 ..) (ev_pos (by omega) (ev_pos (by omega) ?_))
    rw [rd_meta l i hi, List.drop_eq_getElem_cons hi, List.any_cons]
    by_cases h1 : eqM l[i] m = true
    · exact ev_pos h1 (ev_some (by rw [h1]; rfl))
    · refine ev_neg h1 ?_
      rw [w64 (by omega) (by omega), Bool.eq_false_iff.mpr h1, Bool.false_or]
      exact in_l0 l hl m d (i + 1) (by omega)
theorem in_ev (l : List MetaT) (hl : l.length ≤ 100000) (m : MetaT) (h : m ∈ l) : Ev (fun k => millhandlaw16_in.f k l m.f0 m.f1 m.f2 m.f3 m.f4) true := by
  unfold millhandlaw16_in.f
  refine ev_eq (in_l0 l hl m l.length 0 (by omega)) ?_
  rw [List.drop_zero, List.any_eq_true]
  exact ⟨m, h, eqM_refl m⟩
def findL (m : MetaT) : Nat → List (List MetaT) → Int
  | _, [] => -1
  | i, x :: r => if (x.any fun y => eqM y m) = true then (i : Int) else findL m (i + 1) r
theorem at_l1 (L : List (List MetaT)) (next seq : Int) (log : ByteArray) (hL : L.length ≤ 20) (m : MetaT) (i : Nat) (hi : i < L.length) (hl : L[i].length ≤ 100) (r : Int)
    (hn : Ev (fun k => millhandlaw16_at.l0 k ((i + 1 : Nat) : Int) L next seq log m.f0 m.f1 m.f2 m.f3 m.f4) r) : ∀ (d j : Nat), j + d = L[i].length →
    Ev (fun k => millhandlaw16_at.l1 k (i : Int) (j : Int) L next seq log m.f0 m.f1 m.f2 m.f3 m.f4) (if ((L[i].drop j).any fun y => eqM y m) = true then (i : Int) else r)
  | 0, j, h => by
    refine Ev.step (fun _ => millhandlaw16_at.l1.eq_2 ..) (ev_pos (by omega) (ev_pos (by omega) ?_))
    rw [rd_lvl L i hi, List.drop_of_length_le (by omega)]
    refine ev_neg (by omega) ?_
    rw [w64 (by omega) (by omega)]
    exact hn
  | d + 1, j, h => by
    have hj : j < L[i].length := by omega
    refine Ev.step (fun _ => millhandlaw16_at.l1.eq_2 ..) (ev_pos (by omega) (ev_pos (by omega) ?_))
    rw [rd_lvl L i hi]
    refine ev_pos (by omega) (ev_pos (by omega) ?_)
    rw [rd_meta L[i] j hj, List.drop_eq_getElem_cons hj, List.any_cons]
    by_cases h1 : eqM L[i][j] m = true
    · exact ev_pos h1 (ev_some (by rw [h1]; rfl))
    · refine ev_neg h1 ?_
      rw [w64 (by omega) (by omega), Bool.eq_false_iff.mpr h1, Bool.false_or]
      exact at_l1 L next seq log hL m i hi hl r hn d (j + 1) (by omega)
theorem at_l0 (L : List (List MetaT)) (next seq : Int) (log : ByteArray) (hL : L.length ≤ 20) (hm : ∀ x ∈ L, x.length ≤ 100) (m : MetaT) : ∀ (d i : Nat), i + d = L.length →
    Ev (fun k => millhandlaw16_at.l0 k (i : Int) L next seq log m.f0 m.f1 m.f2 m.f3 m.f4) (findL m i (L.drop i))
  | 0, i, h => by
    refine Ev.step (fun _ => millhandlaw16_at.l0.eq_2 ..) (ev_neg (by omega) (ev_some ?_))
    rw [List.drop_of_length_le (by omega)]; rfl
  | d + 1, i, h => by
    have hi : i < L.length := by omega
    refine Ev.step (fun _ => millhandlaw16_at.l0.eq_2 ..) (ev_pos (by omega) ?_)
    rw [List.drop_eq_getElem_cons hi, findL]
    have hx := hm L[i] (List.getElem_mem hi)
    have := at_l1 L next seq log hL m i hi hx _ (at_l0 L next seq log hL hm m d (i + 1) (by omega)) L[i].length 0 (by omega)
    simpa using this
theorem at_ev (L : List (List MetaT)) (next seq : Int) (log : ByteArray) (hL : L.length ≤ 20) (hm : ∀ x ∈ L, x.length ≤ 100) (m : MetaT) : Ev (fun k => millhandlaw16_at.f k L next seq log m.f0 m.f1 m.f2 m.f3 m.f4) (findL m 0 L) := by
  unfold millhandlaw16_at.f
  simpa using at_l0 L next seq log hL hm m L.length 0 (by omega)
theorem lvl_of (k : Nat) : ∀ (l : List MetaT) (prev : Option ByteArray) (names n : List ByteArray), lvlS k prev names l = some n →
    (∀ m ∈ l, inS names m.f0 = false ∧ leS m.f3 m.f4 = true ∧ inS n m.f0 = true) ∧ (∀ t, inS names t = true → inS n t = true)
  | [], prev, names, n, h => by
    rw [lvlS] at h
    injection h with h
    subst h
    exact ⟨fun m hm => (by cases hm), fun t ht => ht⟩
  | x :: l, prev, names, n, h => by
    rw [lvlS] at h
    split at h
    · rename_i hok
      obtain ⟨h1, h2⟩ := lvl_of k l _ _ n h
      unfold okS at hok
      simp only [Bool.and_eq_true, Bool.not_eq_true'] at hok
      have hle : leS x.f3 x.f4 = true := by
        have := hok.1
        unfold tableS at this
        simp only [Bool.and_eq_true] at this
        exact this.2.2.2.2
      refine ⟨fun m hm => ?_, fun t ht => h2 t (by rw [inS_cons, ht, Bool.or_true])⟩
      rcases List.mem_cons.mp hm with rfl | hm
      · exact ⟨hok.2.1, hle, h2 _ (by rw [inS_cons, decide_eq_true rfl, Bool.true_or])⟩
      · obtain ⟨g1, g2, g3⟩ := h1 m hm
        rw [inS_cons, Bool.or_eq_false_iff] at g1
        exact ⟨g1.2, g2, g3⟩
    · cases h
theorem lvls_of : ∀ (L : List (List MetaT)) (k : Nat) (names : List ByteArray), lvlsS k names L = true → ∀ (a : Nat) (ha : a < L.length), ∀ m ∈ L[a], inS names m.f0 = false ∧ leS m.f3 m.f4 = true ∧ ∀ i, findL m i L = ((i + a : Nat) : Int)
  | [], k, names, h, a, ha => by simp at ha
  | l :: L, k, names, h, a, ha => by
    rw [lvlsS] at h
    split at h
    · cases h
    · rename_i n hn
      obtain ⟨h1, h2⟩ := lvl_of k l none names n hn
      cases a with
      | zero =>
        intro m hm0
        have hm : m ∈ l := hm0
        obtain ⟨g1, g2, _⟩ := h1 m hm
        refine ⟨g1, g2, fun i => ?_⟩
        have hany : (l.any fun y => eqM y m) = true := List.any_eq_true.mpr ⟨m, hm, eqM_refl m⟩
        rw [findL, if_pos hany]
        rfl
      | succ a =>
        intro m hm
        obtain ⟨g1, g2, g3⟩ := lvls_of L (k + 1) n h a (by simpa using ha) m hm
        refine ⟨?_, g2, fun i => ?_⟩
        · cases hc : inS names m.f0
          · rfl
          · rw [h2 _ hc] at g1; cases g1
        · rw [findL, if_neg, g3 (i + 1)]
          · congr 1; omega
          · intro hc
            obtain ⟨y, hy, hy2⟩ := List.any_eq_true.mp hc
            have := (h1 y hy).2.2
            rw [eqM_name hy2, g1] at this
            cases this

/-! ### the law -/
theorem verAlive_ev : Ev (fun k => millhandlaw16_alive.f k) true := Ev.of millhandlaw16_alive.mono (k := 60) (by decide +kernel)
theorem mm_le {m : MetaT} {lo hi : ByteArray} (h1 : Op.bytesLess m.f4.toList lo.toList = false) (h2 : Op.bytesLess hi.toList m.f3.toList = false) (h3 : Op.bytesLess m.f4.toList m.f3.toList = false) (h4 : Op.bytesLess hi.toList lo.toList = false) :
    Op.bytesLess (mnS m.f4 hi).toList (mxS m.f3 lo).toList = false := by
  unfold mnS mxS
  split <;> split <;> assumption
theorem Vm_l1 (L : List (List MetaT)) (next seq : Int) (log : ByteArray) (hL : L.length ≤ 20) (hm : ∀ x ∈ L, x.length ≤ 100) (a : Nat) (lo hi : ByteArray) (ol : List MetaT) (hol : ol.length ≤ 100)
    (hin : ∀ m ∈ ol, findL m 0 L = (a : Int) ∧ Op.bytesLess m.f4.toList lo.toList = false ∧ Op.bytesLess hi.toList m.f3.toList = false ∧ Op.bytesLess m.f4.toList m.f3.toList = false) :
    ∀ (d j : Nat), j + d = ol.length → Ev (fun k => millhandlaw16_VersionMeets.l1 k (a : Int) lo hi ol (j : Int) L next seq log) true
  | 0, j, h => Ev.step (fun _ => millhandlaw16_VersionMeets.l1.eq_2 ..) (ev_neg (by omega) (Ev.now _))
  | d + 1, j, h => by
    have hj : j < ol.length := by omega
    obtain ⟨g1, g2, g3, g4⟩ := hin ol[j] (List.getElem_mem hj)
    have hat := at_ev L next seq log hL hm ol[j]
    rw [g1] at hat
    refine Ev.step (fun _ => millhandlaw16_VersionMeets.l1.eq_2 ..) (ev_pos (by omega) ?_)
    rw [rd_meta ol j hj]
    have ih := Vm_l1 L next seq log hL hm a lo hi ol hol hin d (j + 1) (by omega)
    by_cases h1 : Op.bytesLess hi.toList lo.toList = true
    · refine ev_pos h1 (ev_pos (by omega) (Ev.bind hat (ev_pos rfl ?_)))
      rw [w64 (by omega) (by omega)]
      exact ih
    · refine ev_neg h1 (ev_pos (by omega) (ev_neg (by rw [mm_le g2 g3 g4 (nless h1)]; decide) (Ev.bind hat (ev_pos rfl ?_))))
      rw [w64 (by omega) (by omega)]
      exact ih
theorem Vm_l0 (L : List (List MetaT)) (next seq : Int) (log : ByteArray) (a : Nat) (ha : a < L.length) (hl : L[a].length ≤ 100) (lo hi key : ByteArray)
    (hn : Ev (fun k => millhandlaw16_VersionMeets.l1 k (a : Int) lo hi (L[a].filter (meets lo hi)) 0 L next seq log) true) :
    ∀ (d j : Nat), j + d = L[a].length → Ev (fun k => millhandlaw16_VersionMeets.l0 k (a : Int) lo hi key (L[a].filter (meets lo hi)) (j : Int) L next seq log) true
  | 0, j, h => by
    refine Ev.step (fun _ => millhandlaw16_VersionMeets.l0.eq_2 ..) (ev_pos (by omega) (ev_pos (by omega) ?_))
    rw [rd_lvl L a ha]
    exact ev_neg (by omega) hn
  | d + 1, j, h => by
    have hj : j < L[a].length := by omega
    have ih := Vm_l0 L next seq log a ha hl lo hi key hn d (j + 1) (by omega)
    refine Ev.step (fun _ => millhandlaw16_VersionMeets.l0.eq_2 ..) (ev_pos (by omega) (ev_pos (by omega) ?_))
    rw [rd_lvl L a ha]
    refine ev_pos (by omega) (ev_pos (by omega) ?_)
    rw [rd_meta L[a] j hj, w64 (by omega) (by omega)]
    by_cases h1 : Op.bytesLess key.toList lo.toList = true
    · exact ev_pos h1 ih
    by_cases h2 : Op.bytesLess hi.toList key.toList = true
    · exact ev_neg h1 (ev_pos h2 ih)
    by_cases h3 : Op.bytesLess key.toList L[a][j].f3.toList = true
    · exact ev_neg h1 (ev_neg h2 (ev_pos h3 ih))
    by_cases h4 : Op.bytesLess L[a][j].f4.toList key.toList = true
    · exact ev_neg h1 (ev_neg h2 (ev_neg h3 (ev_pos h4 ih)))
    have hmem : L[a][j] ∈ L[a].filter (meets lo hi) := by
      rw [List.mem_filter]
      refine ⟨List.getElem_mem hj, ?_⟩
      unfold meets
      rw [ge_trans (nless h1) (nless h4), ge_trans (nless h3) (nless h2)]
      rfl
    have hfl : (L[a].filter (meets lo hi)).length ≤ 100000 := by have := List.length_filter_le (meets lo hi) L[a]; omega
    exact ev_neg h1 (ev_neg h2 (ev_neg h3 (ev_neg h4 (Ev.bind (in_ev _ hfl _ hmem) (ev_pos rfl ih)))))
theorem VersionMeets_ev (L : List (List MetaT)) (next seq : Int) (log : ByteArray) (lv : Int) (lo hi key : ByteArray) : Ev (fun k => millhandlaw16_VersionMeets.f k L next seq log lv lo hi key) true := by
  unfold millhandlaw16_VersionMeets.f
  have hj : Ev (fun k => millhandlaw16_VersionMeets.j0 k lv lo hi key true true L next seq log) true := Ev.step (fun _ => millhandlaw16_VersionMeets.j0.eq_2 ..) (ev_pos rfl (Ev.now _))
  obtain ⟨b, hb, hfit⟩ := great_ev L next seq log
  refine Ev.bind verAlive_ev (Ev.bind hb ?_)
  cases b with
  | true => exact ev_pos rfl hj
  | false =>
    obtain ⟨hL, hm⟩ := hfit rfl
    refine ev_neg (by decide) ?_
    by_cases s1 : (lo.size : Int) > 1000
    · exact ev_pos s1 hj
    by_cases s2 : (hi.size : Int) > 1000
    · exact ev_neg s1 (ev_pos s2 hj)
    by_cases s3 : (key.size : Int) > 1000
    · exact ev_neg s1 (ev_neg s2 (ev_pos s3 hj))
    refine ev_neg s1 (ev_neg s2 (ev_neg s3 (Ev.step (fun _ => millhandlaw16_VersionMeets.j0.eq_2 ..) (ev_neg (by decide) ?_))))
    rcases Overlap_ev L next seq log hL hm lv lo hi with ⟨e, he, hov⟩ | ⟨a, rfl, ha, hmay, hov⟩
    · exact Ev.bind hov (ev_neg he (ev_some rfl))
    · refine Ev.bind hov (ev_pos rfl ?_)
      have hla := hm L[a] (List.getElem_mem ha)
      have hvs : lvlsS 0 [log] L = true := by
        unfold mayV at hmay
        rw [Bool.and_eq_true] at hmay
        exact hmay.2
      have hof := lvls_of L 0 [log] hvs a ha
      have hfl : (L[a].filter (meets lo hi)).length ≤ 100 := by have := List.length_filter_le (meets lo hi) L[a]; omega
      refine Vm_l0 L next seq log a ha hla lo hi key ?_ L[a].length 0 (by omega)
      refine Vm_l1 L next seq log hL hm a lo hi _ hfl (fun m hm2 => ?_) (L[a].filter (meets lo hi)).length 0 (by omega)
      rw [List.mem_filter] at hm2
      obtain ⟨g1, g2, g3⟩ := hof m hm2.1
      have hme := hm2.2
      unfold meets at hme
      simp only [Bool.and_eq_true, Bool.not_eq_true'] at hme
      refine ⟨by rw [g3 0, Nat.zero_add], hme.1, hme.2, ?_⟩
      unfold leS at g2
      simpa using g2
theorem ver_open {w : World} {x : S24} {cs : Array Value} (h : k24.K w x cs.toList) : ∃ A c, cs = #[.slice A x.f0.length c, .int .i64 x.f1, .int .i64 x.f2, .string x.f3] ∧ x.f0.length ≤ c ∧ Kd.C (Kd.slice 32 k32) w A x.f0.length x.f0 := by
  obtain ⟨_, _, hcs, ⟨A, c, rfl, hle, hC⟩, ⟨_, _, rfl, rfl, ⟨_, _, rfl, rfl, rfl⟩⟩⟩ := h
  refine ⟨A, c, ?_, hle, hC⟩
  cases cs
  simpa using hcs
theorem VersionMeets_walk (w : World) (x0 : S24) (cs0 : Array Value) (r0 : k24.K w x0 cs0.toList) (g0_ : g24 x0) (a1 : Int) (g1_ : (Lit.int .i64 a1).wf = true) (a2 : ByteArray) (g2_ : a2.size ≤ 140737488351232) (a3 : ByteArray) (g3_ : a3.size ≤ 140737488351232) (a4 : ByteArray) (g4_ : a4.size ≤ 140737488351232) :
    Calls Try.prog 3 #[.agg cs0, .int .i64 a1, .string a2, .string a3, .string a4] w fun e w' => e = .returned (.bool true) ∧ Below w.heap.size w w' := by
  obtain ⟨A, c, rfl, hle, hC⟩ := ver_open r0
  obtain ⟨k, h⟩ := (VersionMeets_ev x0.f0 x0.f1 x0.f2 x0.f3 a1 a2 a3 a4).rounds
  exact millhandlaw16_VersionMeets.calls k A c x0.f0 x0.f1 x0.f2 x0.f3 a1 a2 a3 a4 true w hC hle h
end Go.Proofs.Ytdlghckcbbjipaa.R

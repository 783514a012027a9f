/- The tables that meet keys, and all names: the program's answer and the document's are one. -/
import Derived.Test.YtdlghckcbbjipaaRx2
import Derived.Test.YtdlghckcbbjipaaRx4
import Derived.Test.YtdlghckcbbjipaaRx22
import Derived.Test.YtdlghckcbbjipaaRx14
import Derived.Test.YtdlghckcbbjipaaRx23
import Derived.Test.YtdlghckcbbjipaaRx7
import Derived.Test.YtdlghckcbbjipaaRx10
import Derived.Test.YtdlghckcbbjipaaRx11
import Derived.Test.YtdlghckcbbjipaaRx24
import Derived.Test.YtdlghckcbbjipaaRP1
import Derived.Test.YtdlghckcbbjipaaRSL
import Derived.Test.YtdlghckcbbjipaaROp
namespace Go.Proofs.Ytdlghckcbbjipaa.R
open Go.RowKit Go.Proofs.YtdlghckcbbjipaaW.PrintWords Go.Proofs.YtdlghckcbbjipaaW.PrintLast Go.Proofs.YtdlghckcbbjipaaW.PrintMore Go.Proofs.Ytdlghckcbbjipaa.Plain Go.Proofs.Ytdlghckcbbjipaa.Opens
set_option linter.unusedVariables false
set_option linter.unusedSimpArgs false
/-! ### texts in order -/
def tx (b : ByteArray) : List UInt8 := b.data.toList
theorem tx_inj {a b : ByteArray} (h : tx a = tx b) : a = b := text_eq (by rw [ByteArray.toList_eq, ByteArray.toList_eq]; exact h)
theorem less_tx (a b : ByteArray) : Op.bytesLess a.toList b.toList = decide (tx a < tx b) := by
  rw [bytesLess_eq, ByteArray.toList_eq, ByteArray.toList_eq]; rfl
/-- A text put into texts in order, as the document does it. -/
def insT (x : ByteArray) : Bool → List ByteArray → List ByteArray
  | true, r => r
  | false, [] => [x]
  | false, y :: r => if Op.bytesLess x.toList y.toList = true then x :: y :: r else y :: insT x false r
theorem insT_perm (x : ByteArray) : ∀ l, (insT x false l).Perm (x :: l)
  | [] => List.Perm.refl _
  | y :: r => by
    unfold insT
    split
    · exact List.Perm.refl _
    · exact ((insT_perm x r).cons y).trans (List.Perm.swap x y r)
theorem insT_sorted (x : ByteArray) : ∀ l, List.Pairwise (fun a b => tx a ≤ tx b) l → List.Pairwise (fun a b => tx a ≤ tx b) (insT x false l)
  | [], _ => by simp [insT]
  | y :: r, h => by
    rw [List.pairwise_cons] at h
    unfold insT
    split
    · rename_i hl
      rw [less_tx, decide_eq_true_eq] at hl
      have hxy := List.le_of_lt hl
      refine List.pairwise_cons.2 ⟨fun z hz => ?_, List.pairwise_cons.2 h⟩
      rcases List.mem_cons.1 hz with rfl | hz
      · exact hxy
      · exact List.le_trans hxy (h.1 z hz)
    · rename_i hl
      rw [less_tx, decide_eq_true_eq] at hl
      have hyx := List.not_lt.mp hl
      refine List.pairwise_cons.2 ⟨fun z hz => ?_, insT_sorted x r h.2⟩
      rcases List.mem_cons.1 ((insT_perm x r).mem_iff.1 hz) with rfl | hz
      · exact hyx
      · exact h.1 z hz
def insAll (out : List ByteArray) : List ByteArray → List ByteArray
  | [] => out
  | x :: r => insAll (insT x false out) r
theorem insAll_perm : ∀ (l out : List ByteArray), (insAll out l).Perm (out ++ l)
  | [], out => by simp [insAll]
  | x :: r, out => by
    refine (insAll_perm r (insT x false out)).trans ?_
    refine ((insT_perm x out).append_right r).trans ?_
    exact (List.perm_middle (a := x) (l₁ := out) (l₂ := r)).symm
theorem insAll_sorted : ∀ (l out : List ByteArray), List.Pairwise (fun a b => tx a ≤ tx b) out → List.Pairwise (fun a b => tx a ≤ tx b) (insAll out l)
  | [], _, h => h
  | x :: r, out, h => insAll_sorted r (insT x false out) (insT_sorted x out h)
theorem insAll_length (l out : List ByteArray) : (insAll out l).length = out.length + l.length := by rw [(insAll_perm l out).length_eq, List.length_append]
theorem mk_tx (b : ByteArray) : (⟨(tx b).toArray⟩ : ByteArray) = b := tx_inj rfl
theorem sortB_ins (l out : List ByteArray) (h : List.Pairwise (fun a b => tx a ≤ tx b) out) : sortB (out ++ l) = insAll out l := by
  have hp : (sortB (out ++ l)).Perm (out ++ l) := by
    unfold sortB
    have h1 := (List.mergeSort_perm ((out ++ l).map (fun b => b.data.toList)) (fun x y => decide (x ≤ y))).map (fun x => (⟨x.toArray⟩ : ByteArray))
    refine h1.trans ?_
    rw [List.map_map]
    have : ((fun x => (⟨x.toArray⟩ : ByteArray)) ∘ fun b : ByteArray => b.data.toList) = id := funext fun b => mk_tx b
    rw [this, List.map_id]
  have hs : List.Pairwise (fun a b => tx a ≤ tx b) (sortB (out ++ l)) := by
    unfold sortB
    rw [List.pairwise_map]
    refine List.Pairwise.imp ?_ (List.pairwise_mergeSort (le := fun x y : List UInt8 => decide (x ≤ y)) ?_ ?_ _)
    · intro a b hab
      exact of_decide_eq_true hab
    · intro a b c hab hbc
      exact decide_eq_true (List.le_trans (of_decide_eq_true hab) (of_decide_eq_true hbc))
    · intro a b
      rcases List.le_total a b with h | h
      · rw [decide_eq_true h]; rfl
      · rw [decide_eq_true h, Bool.or_true]
  exact List.Perm.eq_of_pairwise (le := fun a b => tx a ≤ tx b) (fun a b _ _ h1 h2 => tx_inj (List.le_antisymm h1 h2)) hs (insAll_sorted l out h) (hp.trans (insAll_perm l out).symm)
/-! ### all names -/
theorem rd_name (l : List ByteArray) (i : Nat) (hi : i < l.length) : rdOf ByteArray.empty l (i : Int) = l[i] := by simp [rdOf, List.getD_eq_getElem?_getD, List.getElem?_eq_getElem hi]
theorem Nm_l1 (L : List (List MetaT)) (n i : Nat) (X : List MetaT) (hX : X.length ≤ 100) (r : List ByteArray × Int) : ∀ (d j : Nat) (acc : List ByteArray), j + d = X.length → acc.length + d ≤ 100000 →
    Ev (fun k => version_Names.l0 k (acc ++ (X.drop j).map (fun m => m.f0)) L (n : Int) (wrap64 ((i : Int) + 1))) r → Ev (fun k => version_Names.l1 k acc L (n : Int) (i : Int) X (X.length : Int) (j : Int)) r
  | 0, j, acc, h, ha, hr => by
    rw [List.drop_of_length_le (by omega), List.map_nil, List.append_nil] at hr
    exact Ev.step (fun _ => version_Names.l1.eq_2 ..) (ev_neg (by omega) hr)
  | d + 1, j, acc, h, ha, hr => by
    have hj : j < X.length := by omega
    rw [List.drop_eq_getElem_cons hj, List.map_cons, ← List.singleton_append, ← List.append_assoc] at hr
    refine Ev.step (fun _ => version_Names.l1.eq_2 ..) (ev_pos (by omega) (ev_pos (by omega) (ev_pos (by omega) (ev_pos (by omega) ?_))))
    rw [rd_meta X j hj, w64 (by omega) (by omega)]
    exact Nm_l1 L n i X hX r d (j + 1) (acc ++ [X[j].f0]) (by omega) (by rw [List.length_append, List.length_singleton]; omega) hr
theorem flat_drop (L : List (List MetaT)) (i : Nat) (hi : i < L.length) : (L.drop i).flatten = L[i] ++ (L.drop (i + 1)).flatten := by rw [List.drop_eq_getElem_cons hi, List.flatten_cons]
theorem Nm_l0 (L : List (List MetaT)) (hL : L.length ≤ 20) (hm : ∀ x ∈ L, x.length ≤ 100) : ∀ (d i : Nat) (acc : List ByteArray), i + d = L.length → acc.length + (L.drop i).flatten.length ≤ 10000 →
    Ev (fun k => version_Names.l0 k acc L (L.length : Int) (i : Int)) (sortB (acc ++ (L.drop i).flatten.map (fun m => m.f0)), 0)
  | 0, i, acc, h, ha => by
    refine Ev.step (fun _ => version_Names.l0.eq_2 ..) (ev_neg (by omega) ?_)
    rw [List.drop_of_length_le (by omega)] at ha ⊢
    simp only [List.flatten_nil, List.map_nil, List.append_nil] at ha ⊢
    have : Ev (fun _ => slices_Sort_string_string.f acc) (sortB acc) := by
      unfold slices_Sort_string_string.f
      exact ev_pos (by have : acc.length ≤ 10000 := by simpa using ha
                       omega) (Ev.now _)
    exact Ev.bind this (Ev.now _)
  | d + 1, i, acc, h, ha => by
    have hi : i < L.length := by omega
    have hx := hm L[i] (List.getElem_mem hi)
    rw [flat_drop L i hi, List.length_append] at ha
    refine Ev.step (fun _ => version_Names.l0.eq_2 ..) (ev_pos (by omega) (ev_pos (by omega) (ev_pos (by omega) ?_)))
    rw [rd_lvl L i hi]
    refine Nm_l1 L L.length i L[i] hx _ L[i].length 0 acc (by omega) (by omega) ?_
    rw [w64 (by omega) (by omega), List.drop_zero, flat_drop L i hi, List.map_append, ← List.append_assoc]
    exact Nm_l0 L hL hm d (i + 1) (acc ++ L[i].map (fun m => m.f0)) (by omega) (by rw [List.length_append, List.length_map]; omega)
def namesS (L : List (List MetaT)) (log : ByteArray) : List ByteArray := insAll [log] (L.flatten.map fun m => m.f0)
theorem Names_ev (L : List (List MetaT)) (next seq : Int) (log : ByteArray) (hl : L.length ≤ 20) (hm : ∀ x ∈ L, x.length ≤ 100) :
    Ev (fun k => version_Names.f k L next seq log) (if chkS L next seq log = 0 then (namesS L log, 0) else ([], chkS L next seq log)) := by
  have hf := flat_le L 100 hm
  unfold version_Names.f
  refine Ev.bind (Check_ev L next seq log hl hm) ?_
  show Ev (fun k => if chkS L next seq log = 0 then _ else _) _
  refine ev_ite (fun h => ?_) (fun h => Ev.now _)
  refine ev_eq (Nm_l0 L hl hm L.length 0 [log] (by omega) (by rw [List.drop_zero, List.length_singleton]; omega)) ?_
  rw [List.drop_zero, sortB_ins _ _ (List.pairwise_singleton _ _)]; rfl
theorem rNm_l1 (T : List MetaT) (i : Nat) (hi : i < T.length) (out : List ByteArray) (ho : out.length ≤ 100000) (r : List ByteArray × Int) : ∀ (d j : Nat) (more : List ByteArray) (put : Bool), j + d = out.length → more.length + 2 * d ≤ 400000 →
    Ev (fun k => millhandref16_Names.l0 k T (more ++ insT T[i].f0 put (out.drop j)) (wrap64 ((i : Int) + 1))) r → Ev (fun k => millhandref16_Names.l1 k T out (i : Int) more put (j : Int)) r
  | 0, j, more, put, h, ha, hr => by
    rw [List.drop_of_length_le (by omega)] at hr
    refine Ev.step (fun _ => millhandref16_Names.l1.eq_2 ..) (ev_neg (by omega) ?_)
    cases put with
    | true =>
      rw [insT, List.append_nil] at hr
      exact ev_pos rfl hr
    | false =>
      rw [insT] at hr
      refine ev_neg (by decide) (ev_pos (by omega) (ev_pos (by omega) (ev_pos (by omega) ?_)))
      rw [rd_meta T i hi]
      exact hr
  | d + 1, j, more, put, h, ha, hr => by
    have hj : j < out.length := by omega
    rw [List.drop_eq_getElem_cons hj] at hr
    refine Ev.step (fun _ => millhandref16_Names.l1.eq_2 ..) (ev_pos (by omega) ?_)
    cases put with
    | true =>
      refine ev_pos rfl (ev_pos (by omega) (ev_pos (by omega) ?_))
      rw [rd_name out j hj, w64 (by omega) (by omega)]
      refine rNm_l1 T i hi out ho r d (j + 1) (more ++ [out[j]]) true (by omega) (by rw [List.length_append, List.length_singleton]; omega) ?_
      rw [insT, ← List.singleton_append, ← List.append_assoc] at hr
      rw [insT]
      exact hr
    | false =>
      refine ev_neg (by decide) (ev_pos (by omega) (ev_pos (by omega) (ev_pos (by omega) ?_)))
      rw [rd_meta T i hi, rd_name out j hj]
      unfold insT at hr
      by_cases h1 : Op.bytesLess T[i].f0.toList out[j].toList = true
      · rw [if_pos h1] at hr
        refine ev_pos h1 (ev_pos (by omega) (Ev.bind (Ev.now _) (ev_pos (by rw [List.length_append, List.length_singleton]; omega) ?_)))
        rw [w64 (by omega) (by omega)]
        refine rNm_l1 T i hi out ho r d (j + 1) _ true (by omega) (by rw [List.length_append, List.length_append, List.length_singleton, List.length_singleton]; omega) ?_
        rw [insT, List.append_assoc, List.append_assoc, List.singleton_append, List.singleton_append]
        exact hr
      · rw [if_neg h1, ← List.singleton_append, ← List.append_assoc] at hr
        refine ev_neg h1 (ev_pos (by omega) ?_)
        rw [w64 (by omega) (by omega)]
        exact rNm_l1 T i hi out ho r d (j + 1) (more ++ [out[j]]) false (by omega) (by rw [List.length_append, List.length_singleton]; omega) hr
theorem insT_length (x : ByteArray) (l : List ByteArray) : (insT x false l).length = l.length + 1 := by rw [(insT_perm x l).length_eq, List.length_cons]
theorem rNm_l0 (T : List MetaT) : ∀ (d i : Nat) (out : List ByteArray), i + d = T.length → out.length + d ≤ 10000 → T.length ≤ 10000 →
    Ev (fun k => millhandref16_Names.l0 k T out (i : Int)) (insAll out ((T.drop i).map fun m => m.f0), 0)
  | 0, i, out, h, ha, hT => by
    refine Ev.step (fun _ => millhandref16_Names.l0.eq_2 ..) (ev_neg (by omega) (ev_some ?_))
    rw [List.drop_of_length_le (by omega)]; rfl
  | d + 1, i, out, h, ha, hT => by
    have hi : i < T.length := by omega
    refine Ev.step (fun _ => millhandref16_Names.l0.eq_2 ..) (ev_pos (by omega) ?_)
    refine rNm_l1 T i hi out (by omega) _ out.length 0 [] false (by omega) (by rw [List.length_nil]; omega) ?_
    rw [w64 (by omega) (by omega), List.drop_zero, List.nil_append, List.drop_eq_getElem_cons hi, List.map_cons]
    exact rNm_l0 T d (i + 1) _ (by omega) (by rw [insT_length]; omega) hT
theorem rNames_ev (L : List (List MetaT)) (next seq : Int) (log : ByteArray) (hl : L.length ≤ 20) (hm : ∀ x ∈ L, x.length ≤ 100) :
    Ev (fun k => millhandref16_Names.f k L next seq log) (if chkS L next seq log = 0 then (namesS L log, 0) else ([], chkS L next seq log)) := by
  have hf := flat_le L 100 hm
  unfold millhandref16_Names.f
  refine Ev.bind (refCheck_ev L next seq log hl hm) ?_
  refine ev_ite (fun h => ?_) (fun h => Ev.now _)
  refine Ev.bind (Tables_ev L next seq log hl hm) ?_
  refine ev_eq (rNm_l0 L.flatten L.flatten.length 0 [log] (by omega) (by rw [List.length_singleton]; omega) (by omega)) ?_
  rw [List.drop_zero]; rfl
/-! ### what meets keys -/
def overlapS (L : List (List MetaT)) (next seq : Int) (log : ByteArray) (lv : Int) (lo hi : ByteArray) : List MetaT × Int :=
  if chkS L next seq log = 0 then (if lv < 0 then ([], 2) else if lv ≥ 4 then ([], 2) else if textS 64 lo = true then (if textS 64 hi = true then ((L.getD lv.toNat []).filter (meets lo hi), 0) else ([], 3)) else ([], 3)) else ([], chkS L next seq log)
theorem overlapS_len (L : List (List MetaT)) (next seq : Int) (log : ByteArray) (hm : ∀ x ∈ L, x.length ≤ 100) (lv : Int) (lo hi : ByteArray) : (overlapS L next seq log lv lo hi).1.length ≤ 100 := by
  unfold overlapS
  repeat' split
  all_goals try (simp; done)
  refine Nat.le_trans (List.length_filter_le _ _) ?_
  rw [List.getD_eq_getElem?_getD]
  by_cases h : lv.toNat < L.length
  · rw [List.getElem?_eq_getElem h]
    exact hm _ (List.getElem_mem h)
  · rw [List.getElem?_eq_none (by omega)]; simp
theorem Over_ev (L : List (List MetaT)) (next seq : Int) (log : ByteArray) (hl : L.length ≤ 20) (hm : ∀ x ∈ L, x.length ≤ 100) (lv : Int) (lo hi : ByteArray) :
    Ev (fun k => version_Overlap.f k L next seq log lv lo hi) (overlapS L next seq log lv lo hi) := by
  unfold version_Overlap.f overlapS
  refine Ev.bind (Check_ev L next seq log hl hm) ?_
  show Ev (fun k => if chkS L next seq log = 0 then _ else _) _
  refine ev_ite (fun h => ?_) (fun h => Ev.now _)
  have h4 := mayV_len (chkS_zero h).2
  refine ev_ite (fun h5 => ?_) (fun h5 => ?_)
  · exact Ev.step (fun _ => version_Overlap.j0.eq_2 ..) (ev_pos (decide_eq_true h5) (Ev.now _))
  by_cases h6 : lv ≥ 4
  · rw [if_pos h6]
    exact Ev.step (fun _ => version_Overlap.j0.eq_2 ..) (ev_pos (decide_eq_true h6) (Ev.now _))
  rw [if_neg h6]
  refine Ev.step (fun _ => version_Overlap.j0.eq_2 ..) (ev_neg (by simpa using h6) ?_)
  have hw (s : ByteArray) : Ev (fun _ => version_within.f s 64) (textS 64 s) := by rw [within_f]; exact Ev.now _
  refine Ev.bind (hw lo) (ev_ite (fun h7 => Ev.bind (hw hi) (ev_ite (fun h8 => ?_) (fun _ => Ev.now _))) (fun _ => Ev.now _))
  obtain ⟨a, rfl⟩ : ∃ a : Nat, lv = (a : Int) := ⟨lv.toNat, by omega⟩
  have ha : a < L.length := by omega
  refine ev_pos (by omega) (ev_pos (by omega) ?_)
  rw [rd_lvl L a ha, Int.toNat_natCast, List.getD_eq_getElem?_getD, List.getElem?_eq_getElem ha]
  have hx := hm L[a] (List.getElem_mem ha)
  refine ev_eq (Ov_l0 lo hi L[a] (by omega) L[a].length 0 [] (by omega) (by rw [List.length_nil]; omega)) ?_
  rw [List.drop_zero, List.nil_append]; rfl
theorem rOver_ev (L : List (List MetaT)) (next seq : Int) (log : ByteArray) (hl : L.length ≤ 20) (hm : ∀ x ∈ L, x.length ≤ 100) (lv : Int) (lo hi : ByteArray) :
    Ev (fun k => millhandref16_Overlap.f k L next seq log lv lo hi) (overlapS L next seq log lv lo hi) := by
  unfold millhandref16_Overlap.f overlapS
  refine Ev.bind (refCheck_ev L next seq log hl hm) ?_
  refine ev_ite (fun h => ?_) (fun h => Ev.now _)
  have h4 := mayV_len (chkS_zero h).2
  refine ev_ite (fun h5 => ?_) (fun h5 => ?_)
  · exact Ev.step (fun _ => millhandref16_Overlap.j0.eq_2 ..) (ev_pos rfl (Ev.now _))
  by_cases h6 : lv ≥ 4
  · rw [if_pos h6]
    exact Ev.step (fun _ => millhandref16_Overlap.j0.eq_2 ..) (ev_pos (decide_eq_true h6) (Ev.now _))
  rw [if_neg h6]
  refine Ev.step (fun _ => millhandref16_Overlap.j0.eq_2 ..) (ev_neg (by simpa using h6) ?_)
  have hw (s : ByteArray) : Ev (fun _ => millhandref16_Text.f s 64) (textS 64 s) := by rw [refText_f]; exact Ev.now _
  refine Ev.bind (hw lo) (ev_ite (fun h7 => Ev.bind (hw hi) (ev_ite (fun h8 => ?_) (fun _ => Ev.now _))) (fun _ => Ev.now _))
  obtain ⟨a, rfl⟩ : ∃ a : Nat, lv = (a : Int) := ⟨lv.toNat, by omega⟩
  have ha : a < L.length := by omega
  refine ev_pos (by omega) (ev_pos (by omega) ?_)
  rw [rd_lvl L a ha, Int.toNat_natCast, List.getD_eq_getElem?_getD, List.getElem?_eq_getElem ha]
  have hx := hm L[a] (List.getElem_mem ha)
  exact Ev.bind (Meet_ev L[a] (by omega) lo hi) (Ev.now _)
/-! ### the law -/
theorem Vt_l1 (L : List (List MetaT)) (next seq : Int) (log : ByteArray) (hl : L.length ≤ 20) (hm : ∀ x ∈ L, x.length ≤ 100) : ∀ (d i : Nat) (X : List MetaT), i + d = X.length → X.length ≤ 100 →
    Ev (fun k => millhandlaw16_VersionTells.l1 k X (i : Int) L next seq log L next seq log) true
  | 0, i, X, h, hX => Ev.step (fun _ => millhandlaw16_VersionTells.l1.eq_2 ..) (ev_neg (by omega) (Ev.bind (Same_ev L next seq log hl hm) (Ev.now _)))
  | d + 1, i, X, h, hX => by
    refine Ev.step (fun _ => millhandlaw16_VersionTells.l1.eq_2 ..) (ev_pos (by omega) (ev_pos (by omega) ?_))
    rw [w64 (by omega) (by omega)]
    exact Vt_l1 L next seq log hl hm d (i + 1) _ (by rw [List.length_set]; omega) (by rw [List.length_set]; exact hX)
theorem Vt_l0 (L : List (List MetaT)) (next seq : Int) (log : ByteArray) (hl : L.length ≤ 20) (hm : ∀ x ∈ L, x.length ≤ 100) (X : List MetaT) (hX : X.length ≤ 100) (N : List ByteArray) (hN : N.length ≤ 100000) : ∀ (d i : Nat), i + d = N.length →
    Ev (fun k => millhandlaw16_VersionTells.l0 k X N N (i : Int) L next seq log L next seq log) true
  | 0, i, h => Ev.step (fun _ => millhandlaw16_VersionTells.l0.eq_2 ..) (ev_neg (by omega) (Vt_l1 L next seq log hl hm X.length 0 X (by omega) hX))
  | d + 1, i, h => by
    refine Ev.step (fun _ => millhandlaw16_VersionTells.l0.eq_2 ..) (ev_pos (by omega) (ev_pos (by omega) (ev_pos (by omega) (ev_pos rfl ?_))))
    rw [w64 (by omega) (by omega)]
    exact Vt_l0 L next seq log hl hm X hX N hN d (i + 1) (by omega)
theorem VersionTells_ev (L : List (List MetaT)) (next seq : Int) (log : ByteArray) (lv : Int) (lo hi : ByteArray) : Ev (fun k => millhandlaw16_VersionTells.f k L next seq log lv lo hi) true := by
  unfold millhandlaw16_VersionTells.f
  have hj : Ev (fun k => millhandlaw16_VersionTells.j0 k lv lo hi true L next seq log) true := Ev.step (fun _ => millhandlaw16_VersionTells.j0.eq_2 ..) (ev_pos rfl (Ev.now _))
  obtain ⟨b, hb, hfit⟩ := great_ev L next seq log
  refine Ev.bind hb ?_
  cases b with
  | true => exact ev_pos rfl hj
  | false =>
    obtain ⟨hl, hm⟩ := hfit rfl
    by_cases h2 : (lo.size : Int) > 1000
    · exact ev_neg (by decide) (ev_pos h2 hj)
    refine ev_neg (by decide) (ev_neg h2 ?_)
    by_cases h3 : (hi.size : Int) > 1000
    · rw [decide_eq_true h3]; exact hj
    rw [decide_eq_false h3]
    have hf := flat_le L 100 hm
    refine Ev.step (fun _ => millhandlaw16_VersionTells.j0.eq_2 ..) (ev_neg (by decide) ?_)
    refine Ev.bind (Twin_ev L next seq log hl hm) (Ev.bind (Over_ev L next seq log hl hm lv lo hi) (Ev.bind (rOver_ev L next seq log hl hm lv lo hi) (Ev.bind (Names_ev L next seq log hl hm) (Ev.bind (rNames_ev L next seq log hl hm) ?_))))
    have ho := overlapS_len L next seq log hm lv lo hi
    refine Ev.bind (SameMetas_ev (overlapS L next seq log lv lo hi).1 (by omega)) (ev_pos rfl (ev_pos rfl (ev_pos rfl ?_)))
    refine Ev.step (fun _ => millhandlaw16_VersionTells.j1.eq_2 ..) (ev_neg (by simp) ?_)
    refine Vt_l0 L next seq log hl hm _ ho _ ?_ (if chkS L next seq log = 0 then (namesS L log, (0 : Int)) else ([], chkS L next seq log)).1.length 0 (by omega)
    split
    · show (insAll _ _).length ≤ _
      rw [insAll_length, List.length_map, List.length_singleton]; omega
    · exact Nat.zero_le _
theorem ver_openT {w : World} {x : S24} {cs : Array Value} (h : k24.K w x cs.toList) : ∃ A c, cs = #[.slice A x.f0.length c, .int .i64 x.f1, .int .i64 x.f2, .string x.f3] ∧ x.f0.length ≤ c ∧ Kd.C (Kd.slice 32 k32) w A x.f0.length x.f0 := by
  obtain ⟨_, _, hcs, ⟨A, c, rfl, hle, hC⟩, ⟨_, _, rfl, rfl, ⟨_, _, rfl, rfl, rfl⟩⟩⟩ := h
  refine ⟨A, c, ?_, hle, hC⟩
  cases cs
  simpa using hcs
theorem VersionTells_walk (w : World) (x0 : S24) (cs0 : Array Value) (r0 : k24.K w x0 cs0.toList) (g0_ : g24 x0) (a1 : Int) (g1_ : (Lit.int .i64 a1).wf = true) (a2 : ByteArray) (g2_ : a2.size ≤ 140737488351232) (a3 : ByteArray) (g3_ : a3.size ≤ 140737488351232) :
    Calls Try.prog 6 #[.agg cs0, .int .i64 a1, .string a2, .string a3] w fun e w' => e = .returned (.bool true) ∧ Below w.heap.size w w' := by
  obtain ⟨A, c, rfl, hle, hC⟩ := ver_openT r0
  obtain ⟨k, h⟩ := (VersionTells_ev x0.f0 x0.f1 x0.f2 x0.f3 a1 a2 a3).rounds
  exact millhandlaw16_VersionTells.calls k A c x0.f0 x0.f1 x0.f2 x0.f3 a1 a2 a3 true w hC hle h
end Go.Proofs.Ytdlghckcbbjipaa.R

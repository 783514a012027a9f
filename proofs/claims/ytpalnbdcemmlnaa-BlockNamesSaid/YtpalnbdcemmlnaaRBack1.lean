/- What is written as a block is read again, in plain words. -/
import Derived.Test.YtpalnbdcemmlnaaRx7
namespace Go.Proofs.Ytpalnbdcemmlnaa.R
open Go.RowKit Go.Proofs.YtpalnbdcemmlnaaW.PrintWords Go.Proofs.YtpalnbdcemmlnaaW.PrintLast Go.Proofs.YtpalnbdcemmlnaaW.PrintMore Go.Proofs.Ytpalnbdcemmlnaa.Plain
set_option linter.unusedVariables false

/-! ### entries written and read -/
theorem numS_small {n : Nat} (h : n < 18446744073709551616) {most : Int} (hm : (n : Int) ≤ most) (rest : List Int) (bad : Bool) : numS most (smallN n ++ rest) bad = ((n : Int), rest, bad) := by
  unfold numS
  rw [rd1_small0 h]
  show (if most < (n : Int) then _ else _) = _
  rw [if_neg (by omega), List.drop_left]
theorem txtS_text (s : ByteArray) (h : s.size < 18446744073709551616) (rest : List Int) (bad : Bool) : txtS (textS s ++ rest) bad = (s, rest, bad) := by
  have hb := bytesOf_size s
  have e : numS (textS s ++ rest).length (textS s ++ rest) bad = ((s.size : Int), bytesOf s ++ rest, bad) := by
    unfold textS
    rw [List.append_assoc]
    exact numS_small h (by rw [List.length_append, List.length_append]; omega) _ _
  unfold txtS
  rw [e]
  dsimp only
  rw [if_neg (by rw [List.length_append]; omega), Int.toNat_natCast, ← hb, List.take_left, List.drop_left, strOf_bytes]
theorem common_take : ∀ (a b : List UInt8), a.take (commonN a b) = b.take (commonN a b)
  | [], [] => rfl
  | [], _ :: _ => rfl
  | _ :: _, [] => rfl
  | x :: a, y :: b => by
    unfold commonN
    by_cases h : x = y
    · rw [if_pos h, List.take_succ_cons, List.take_succ_cons, common_take a b, h]
    · rw [if_neg h]; rfl
theorem key_again (last k : ByteArray) : last.extract 0 (commonS last k) ++ k.extract (commonS last k) k.size = k := by
  have h1 := common_take last.data.toList k.data.toList
  apply ByteArray.ext
  apply Array.ext'
  have e1 : (last.extract 0 (commonS last k)).data.toList = last.data.toList.take (commonS last k) := by simp
  have e2 : (k.extract (commonS last k) k.size).data.toList = k.data.toList.drop (commonS last k) := by
    rw [ByteArray.data_extract, Array.toList_extract]
    show (k.data.toList.drop (commonS last k)).take (k.size - commonS last k) = _
    exact List.take_of_length_le (by rw [List.length_drop]; exact Nat.le_refl _)
  rw [ByteArray.data_append, Array.toList_append, e1, e2]
  show List.take (commonN last.data.toList k.data.toList) _ ++ List.drop (commonN last.data.toList k.data.toList) _ = _
  rw [h1, List.take_append_drop]
theorem small1 : smallN 1 = [1] := smallN_lt (by decide)
theorem small0 : smallN 0 = [0] := smallN_lt (by decide)
theorem empty_of {s : ByteArray} (h : s.toList = []) : (⟨#[]⟩ : ByteArray) = s := by
  rw [ByteArray.toList_eq] at h
  exact ByteArray.ext (Array.ext' h.symm)
theorem roundS_ent {x : EnT} (hx : mayS x = true) (last : ByteArray) (hl : last.size ≤ 64) (rest : List Int) : roundS last (entB last x ++ rest) = some (x, rest) := by
  obtain ⟨h1, h2, h3, h4, h5, h6⟩ := mayS_bounds hx
  have hc := commonS_le last x.f0
  obtain ⟨q, hq⟩ := Int.eq_ofNat_of_zero_le (by omega : 0 ≤ x.f1)
  have a1 : ∀ r, numS last.size (smallN (commonS last x.f0) ++ r) false = (((commonS last x.f0 : Nat) : Int), r, false) := fun r => numS_small (by omega) (by omega) _ _
  have a2 : ∀ r, txtS (textS (x.f0.extract (commonS last x.f0) x.f0.size) ++ r) false = (x.f0.extract (commonS last x.f0) x.f0.size, r, false) := fun r => txtS_text _ (by rw [extract_size _ _ hc.2]; omega) _ _
  have a3 : ∀ r, numS 1099511627776 (smallN x.f1.toNat ++ r) false = (x.f1, r, false) := fun r => by
    rw [hq, Int.toNat_natCast]
    exact numS_small (by omega) (by omega) _ _
  unfold roundS entB
  simp only [List.append_assoc, a1, a2, a3]
  rw [Int.toNat_natCast, key_again]
  cases hd : x.f2 with
  | true =>
    have e : numS 1 ((if true = true then [1] else 0 :: textS x.f3) ++ rest) false = (1, rest, false) := by
      rw [if_pos rfl, ← small1]
      exact numS_small (by decide) (by decide) _ _
    rw [e]
    dsimp only
    rw [if_pos rfl]
    dsimp only
    rw [if_neg (by rintro (h | h); cases h; omega), empty_of (h6 hd)]
    have : x = ⟨x.f0, x.f1, true, x.f3⟩ := by rw [← hd]
    rw [show ((1 : Int) == 1) = true from rfl, ← this]
  | false =>
    have e : numS 1 ((if false = true then [1] else 0 :: textS x.f3) ++ rest) false = (0, textS x.f3 ++ rest, false) := by
      rw [if_neg (by decide), List.cons_append]
      have := numS_small (n := 0) (by decide) (most := 1) (by decide) (textS x.f3 ++ rest) false
      rw [small0] at this
      exact this
    rw [e]
    dsimp only
    rw [if_neg (show ¬ (0 : Int) = 1 by decide), txtS_text _ (by omega)]
    dsimp only
    rw [if_neg (by rintro (h | h); cases h; omega)]
    have : x = ⟨x.f0, x.f1, false, x.f3⟩ := by rw [← hd]
    rw [show ((0 : Int) == 1) = false from rfl, ← this]
theorem entsFrom_body : ∀ (l : List EnT) (last : ByteArray) (acc : List EnT), (∀ x ∈ l, mayS x = true) → last.size ≤ 64 → entsFrom l.length last (bodyS last l) acc = some (acc ++ l, [])
  | [], last, acc, _, _ => by simp [entsFrom, bodyS]
  | x :: t, last, acc, hm, hl => by
    have hx := hm x (by simp)
    rw [List.length_cons, entsFrom, bodyS, roundS_ent hx last hl]
    dsimp only
    rw [entsFrom_body t x.f0 (acc ++ [x]) (fun y hy => hm y (List.mem_cons_of_mem _ hy)) (mayS_bounds hx).2.1]
    simp
theorem writeS_ok {l : List EnT} (h : (writeS l).2 = 0) : (1 ≤ l.length ∧ l.length ≤ 1024) ∧ ordF none l = true ∧ (allS l).length ≤ 2048 ∧ (writeS l).1 = allS l := by
  unfold writeS at *
  split at h
  · cases h
  · rename_i h1
    rw [if_neg h1]
    split at h
    · rename_i h2
      rw [if_pos h2]
      split at h
      · cases h
      · rename_i h3
        rw [if_neg h3]
        exact ⟨by omega, h2, by omega, rfl⟩
    · cases h
/-- What is written is read again. -/
theorem readB_write {l : List EnT} (h : (writeS l).2 = 0) : readB (writeS l).1 = (l, 0) := by
  obtain ⟨h1, h2, h3, h4⟩ := writeS_ok h
  have hn : numS 1024 (allS l) false = ((l.length : Int), bodyS ⟨#[]⟩ l, false) := by
    unfold allS
    exact numS_small (by omega) (by omega) _ _
  rw [h4]
  unfold readB
  rw [if_neg (by omega), hn]
  dsimp only
  rw [Int.toNat_natCast, entsFrom_body l ⟨#[]⟩ [] (ordF_may h2) (by decide)]
  dsimp only
  rw [List.nil_append, if_neg]
  rintro (h5 | h5 | h5)
  · cases h5
  · exact h5 h
  · exact h5 h4
/-- What is read is what was written. -/
theorem readB_ok {b : List Int} (h : (readB b).2 = 0) : (writeS (readB b).1).2 = 0 ∧ (writeS (readB b).1).1 = b := by
  unfold readB at *
  split at h
  · cases h
  · rename_i h1
    rw [if_neg h1]
    obtain ⟨m, b0, bad, hn⟩ : ∃ m b0 bad, numS 1024 b false = (m, b0, bad) := ⟨_, _, _, rfl⟩
    rw [hn] at h ⊢
    dsimp only at h ⊢
    cases he : entsFrom m.toNat ⟨#[]⟩ b0 [] with
    | none => rw [he] at h; cases h
    | some r =>
      rw [he] at h
      dsimp only at h ⊢
      split at h
      · cases h
      · rename_i h2
        rw [if_neg h2]
        refine ⟨?_, ?_⟩
        · by_cases h3 : (writeS r.1).2 = 0
          · exact h3
          · exact absurd (Or.inr (Or.inl h3)) h2
        · by_cases h3 : (writeS r.1).1 = b
          · exact h3
          · exact absurd (Or.inr (Or.inr h3)) h2
theorem readB_bad {b : List Int} (h : (readB b).2 ≠ 0) : readB b = ([], if 2048 < b.length then 3 else 8) := by
  unfold readB at *
  by_cases h1 : 2048 < b.length
  · rw [if_pos h1, if_pos h1]
  · rw [if_neg h1] at *
    rw [if_neg h1]
    obtain ⟨m, b0, bad, hn⟩ : ∃ m b0 bad, numS 1024 b false = (m, b0, bad) := ⟨_, _, _, rfl⟩
    rw [hn] at h ⊢
    dsimp only at h ⊢
    cases he : entsFrom m.toNat ⟨#[]⟩ b0 [] with
    | none => rfl
    | some r =>
      rw [he] at h
      dsimp only at h ⊢
      split at h
      · rename_i h2; rw [if_pos h2]
      · exact absurd rfl h
end Go.Proofs.Ytpalnbdcemmlnaa.R

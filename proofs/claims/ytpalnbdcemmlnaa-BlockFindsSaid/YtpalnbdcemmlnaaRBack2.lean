/- The document's reading of blocks, in plain words. -/
import Derived.Test.YtpalnbdcemmlnaaRx9
import Derived.Test.YtpalnbdcemmlnaaRBack1
namespace Go.Proofs.Ytpalnbdcemmlnaa.R
open Go.RowKit Go.Proofs.YtpalnbdcemmlnaaW.PrintWords Go.Proofs.YtpalnbdcemmlnaaW.PrintLast Go.Proofs.YtpalnbdcemmlnaaW.PrintMore Go.Proofs.Ytpalnbdcemmlnaa.Plain
set_option linter.unusedVariables false

/-! ### the document's reading -/
theorem rtS_text (s : ByteArray) (h : s.size < 18446744073709551616) (rest : List Int) (bad : Bool) : rtS (textS s ++ rest) bad = (s, rest, bad) := by
  have hb := bytesOf_size s
  unfold rtS textS
  rw [List.append_assoc, rd1_small0 h]
  dsimp only
  rw [if_pos (by rw [List.length_append, List.length_append]; omega)]
  have e1 : (smallN s.size ++ (bytesOf s ++ rest)).take ((smallN s.size).length + s.size) = smallN s.size ++ bytesOf s := by
    rw [← List.append_assoc, show (smallN s.size).length + s.size = (smallN s.size ++ bytesOf s).length by rw [List.length_append]; omega, List.take_left]
  have e2 : (smallN s.size ++ (bytesOf s ++ rest)).drop ((smallN s.size).length + s.size) = rest := by
    rw [← List.append_assoc, show (smallN s.size).length + s.size = (smallN s.size ++ bytesOf s).length by rw [List.length_append]; omega, List.drop_left]
  rw [e1, e2, List.drop_left, strOf_bytes]
theorem refRound_ent {x : EnT} (hx : mayS x = true) (last : ByteArray) (hl : last.size ≤ 64) (rest : List Int) : refRound last (entB last x ++ rest) = (x, rest, false) := by
  obtain ⟨h1, h2, h3, h4, h5, h6⟩ := mayS_bounds hx
  have hc := commonS_le last x.f0
  obtain ⟨q, hq⟩ := Int.eq_ofNat_of_zero_le (by omega : 0 ≤ x.f1)
  have a1 : ∀ r, numS last.size (smallN (commonS last x.f0) ++ r) false = (((commonS last x.f0 : Nat) : Int), r, false) := fun r => numS_small (by omega) (by omega) _ _
  have a2 : ∀ r, rtS (textS (x.f0.extract (commonS last x.f0) x.f0.size) ++ r) false = (x.f0.extract (commonS last x.f0) x.f0.size, r, false) := fun r => rtS_text _ (by rw [extract_size _ _ hc.2]; omega) _ _
  have a3 : ∀ r, numS 1099511627776 (smallN x.f1.toNat ++ r) false = (x.f1, r, false) := fun r => by
    rw [hq, Int.toNat_natCast]
    exact numS_small (by omega) (by omega) _ _
  unfold refRound entB
  simp only [List.append_assoc, a1, a2, a3]
  rw [Int.toNat_natCast, key_again]
  cases hd : x.f2 with
  | true =>
    have e : byteS ((if true = true then [1] else 0 :: textS x.f3) ++ rest) false = (1, rest, false) := rfl
    rw [e]
    dsimp only
    rw [if_pos rfl]
    dsimp only
    rw [empty_of (h6 hd)]
    have : x = ⟨x.f0, x.f1, true, x.f3⟩ := by rw [← hd]
    rw [show ((1 : Int) == 1) = true from rfl, ← this]
  | false =>
    have e : byteS ((if false = true then [1] else 0 :: textS x.f3) ++ rest) false = (0, textS x.f3 ++ rest, false) := rfl
    rw [e]
    dsimp only
    rw [if_neg (show ¬ (0 : Int) = 1 by decide), rtS_text _ (by omega)]
    dsimp only
    have : x = ⟨x.f0, x.f1, false, x.f3⟩ := by rw [← hd]
    rw [show ((0 : Int) == 1) = false from rfl, ← this]
theorem refFrom_body : ∀ (l : List EnT) (last : ByteArray) (acc : List EnT), (∀ x ∈ l, mayS x = true) → last.size ≤ 64 → refFrom l.length last (bodyS last l) false acc = some (acc ++ l, false)
  | [], last, acc, _, _ => by simp [refFrom]
  | x :: t, last, acc, hm, hl => by
    have hx := hm x (by simp)
    have h2 := (mayS_bounds hx).2.1
    rw [List.length_cons, refFrom, bodyS, refRound_ent hx last hl]
    dsimp only
    rw [if_neg (by decide), if_neg (by omega), refFrom_body t x.f0 (acc ++ [x]) (fun y hy => hm y (List.mem_cons_of_mem _ hy)) h2]
    simp
theorem refReadB_write {l : List EnT} (h : (writeS l).2 = 0) : refReadB (writeS l).1 = (l, 0) := by
  obtain ⟨h1, h2, h3, h4⟩ := writeS_ok h
  have hn : numS 1024 (allS l) false = ((l.length : Int), bodyS ⟨#[]⟩ l, false) := by
    unfold allS
    exact numS_small (by omega) (by omega) _ _
  rw [h4]
  unfold refReadB
  rw [if_neg (by omega), hn]
  dsimp only
  rw [Int.toNat_natCast, refFrom_body l ⟨#[]⟩ [] (ordF_may h2) (by decide)]
  dsimp only
  rw [List.nil_append, if_neg]
  rintro (h5 | h5 | h5)
  · cases h5
  · exact h5 h
  · exact h5 h4
theorem refReadB_cases (b : List Int) : ((refReadB b).2 = 0 ∧ (writeS (refReadB b).1).2 = 0 ∧ (writeS (refReadB b).1).1 = b) ∨ refReadB b = ([], if 2048 < b.length then 3 else 8) := by
  unfold refReadB
  by_cases h1 : 2048 < b.length
  · rw [if_pos h1, if_pos h1]; exact Or.inr rfl
  · rw [if_neg h1, if_neg h1]
    obtain ⟨m, b0, bad, hn⟩ : ∃ m b0 bad, numS 1024 b false = (m, b0, bad) := ⟨_, _, _, rfl⟩
    rw [hn]
    dsimp only
    cases he : refFrom m.toNat ⟨#[]⟩ b0 bad [] with
    | none => exact Or.inr rfl
    | some r =>
      dsimp only
      by_cases h2 : r.2 = true ∨ (writeS r.1).2 ≠ 0 ∨ (writeS r.1).1 ≠ b
      · rw [if_pos h2]; exact Or.inr rfl
      · rw [if_neg h2]
        refine Or.inl ⟨rfl, ?_, ?_⟩
        · by_cases h3 : (writeS r.1).2 = 0
          · exact h3
          · exact absurd (Or.inr (Or.inl h3)) h2
        · by_cases h3 : (writeS r.1).1 = b
          · exact h3
          · exact absurd (Or.inr (Or.inr h3)) h2
theorem read_same (b : List Int) : refReadB b = readB b := by
  by_cases h : (readB b).2 = 0
  · obtain ⟨h1, h2⟩ := readB_ok h
    have h3 := refReadB_write h1
    rw [h2] at h3
    rw [h3]
    exact Prod.ext rfl h.symm
  · rcases refReadB_cases b with ⟨h1, h2, h3⟩ | h1
    · have h4 := readB_write h2
      rw [h3] at h4
      rw [h4] at h
      exact absurd rfl h
    · rw [h1, readB_bad h]
end Go.Proofs.Ytpalnbdcemmlnaa.R

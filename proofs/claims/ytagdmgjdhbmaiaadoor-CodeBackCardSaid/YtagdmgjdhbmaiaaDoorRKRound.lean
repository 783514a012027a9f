/- What is written is read back, and nothing else is read. -/
import Derived.Test.YtagdmgjdhbmaiaaDoorRKParts
namespace Go.Proofs.YtagdmgjdhbmaiaaDoor.R
open Go.RowKit Go.Proofs.YtagdmgjdhbmaiaaDoorW.PrintWords Go.Proofs.YtagdmgjdhbmaiaaDoorW.PrintLast Go.Proofs.YtagdmgjdhbmaiaaDoorW.PrintMore Go.Proofs.YtagdmgjdhbmaiaaDoor.Plain
set_option linter.unusedVariables false

/-! ### there and back -/
def u8 (n : Int) : UInt8 := n.toNat.toUInt8
theorem u8_nat {n : Int} (h0 : 0 ≤ n) (h1 : n < 256) : ((u8 n).toNat : Int) = n := by
  unfold u8
  rw [Nat.toUInt8_eq, UInt8.toNat_ofNat']
  omega
theorem u8_self (x : UInt8) : u8 (x.toNat : Int) = x := by
  apply UInt8.toNat_inj.mp
  have h := x.toNat_lt
  have := u8_nat (n := (x.toNat : Int)) (by omega) (by omega)
  omega
def be8U (n : Int) : List UInt8 := [u8 (n / 72057594037927936 % 256), u8 (n / 281474976710656 % 256), u8 (n / 1099511627776 % 256), u8 (n / 4294967296 % 256), u8 (n / 16777216 % 256), u8 (n / 65536 % 256), u8 (n / 256 % 256), u8 (n % 256)]
theorem be8U_length (n : Int) : (be8U n).length = 8 := rfl
theorem un8_be8U (n : Int) (h0 : 0 ≤ n) (h1 : n < 18446744073709551616) : un8 (be8U n) 0 = n := by
  simp only [be8U, un8]
  rw [u8_nat (by omega) (by omega), u8_nat (by omega) (by omega), u8_nat (by omega) (by omega), u8_nat (by omega) (by omega), u8_nat (by omega) (by omega), u8_nat (by omega) (by omega), u8_nat (by omega) (by omega), u8_nat (by omega) (by omega)]
  omega
theorem be8U_un8 (t : List UInt8) (h : t.length = 8) : be8U (un8 t 0) = t ∧ 0 ≤ un8 t 0 ∧ un8 t 0 < 18446744073709551616 := by
  obtain ⟨a, b, c, d, e, f, g, i, rfl⟩ : ∃ a b c d e f g i, t = [a, b, c, d, e, f, g, i] := by
    match t, h with
    | [a, b, c, d, e, f, g, i], _ => exact ⟨a, b, c, d, e, f, g, i, rfl⟩
  simp only [un8]
  have ha := a.toNat_lt
  have hb := b.toNat_lt
  have hc := c.toNat_lt
  have hd := d.toNat_lt
  have he := e.toNat_lt
  have hf := f.toNat_lt
  have hg := g.toNat_lt
  have hi := i.toNat_lt
  obtain ⟨n, hn⟩ : ∃ n : Int, ((((((((0 * 256 + (a.toNat : Int)) * 256 + (b.toNat : Int)) * 256 + (c.toNat : Int)) * 256 + (d.toNat : Int)) * 256 + (e.toNat : Int)) * 256 + (f.toNat : Int)) * 256 + (g.toNat : Int)) * 256 + (i.toNat : Int)) = n := ⟨_, rfl⟩
  rw [hn]
  refine ⟨?_, by omega, by omega⟩
  unfold be8U
  rw [show n / 72057594037927936 % 256 = (a.toNat : Int) by omega, show n / 281474976710656 % 256 = (b.toNat : Int) by omega, show n / 1099511627776 % 256 = (c.toNat : Int) by omega, show n / 4294967296 % 256 = (d.toNat : Int) by omega,
    show n / 16777216 % 256 = (e.toNat : Int) by omega, show n / 65536 % 256 = (f.toNat : Int) by omega, show n / 256 % 256 = (g.toNat : Int) by omega, show n % 256 = (i.toNat : Int) by omega]
  simp only [u8_self]
def partU (p : PartT) : List UInt8 := if p.f0 = true then 2 :: (Esc.esc p.f2.data.toList ++ [0, 0]) else 1 :: be8U p.f1
def keyU (l : List PartT) : List UInt8 := l.flatMap partU
theorem bytesOf_map (s : ByteArray) : bytesOf s = s.data.toList.map fun b => (b.toNat : Int) := rfl
theorem partL_U (p : PartT) (h : 0 ≤ p.f1) : partL p = (partU p).map fun b => (b.toNat : Int) := by
  unfold partL partU
  by_cases ht : p.f0 = true
  · rw [if_pos ht, if_pos ht, bytesOf_map]
    simp [Esc.escB]
  · rw [if_neg ht, if_neg ht]
    simp only [be8, be8U, List.map_cons, List.map_nil]
    rw [u8_nat (by omega) (by omega), u8_nat (by omega) (by omega), u8_nat (by omega) (by omega), u8_nat (by omega) (by omega), u8_nat (by omega) (by omega), u8_nat (by omega) (by omega), u8_nat (by omega) (by omega), u8_nat (by omega) (by omega)]
    rfl
theorem keyL_U : ∀ (l : List PartT), (∀ p ∈ l, 0 ≤ p.f1) → keyL l = (keyU l).map fun b => (b.toNat : Int)
  | [], _ => rfl
  | p :: l, h => by
    have ih := keyL_U l (fun q hq => h q (List.mem_cons_of_mem _ hq))
    unfold keyL keyU at *
    rw [List.flatMap_cons, List.flatMap_cons, List.map_append, ih, partL_U p (h p (List.mem_cons_self ..))]
theorem strOfNums_map (u : List UInt8) : strOfNums (u.map fun b => (b.toNat : Int)) = ⟨u.toArray⟩ := by
  unfold strOfNums
  congr 1
  apply Array.ext'
  rw [List.map_map]
  have : ((fun n : Int => UInt8.ofNat n.toNat) ∘ fun b : UInt8 => (b.toNat : Int)) = id := by
    funext b
    exact u8_self b
  rw [this, List.map_id]
/-- A part that may be: a text's number is 0, a number's text is empty. -/
def okP (p : PartT) : Prop := if p.f0 = true then p.f1 = 0 else p.f2 = ⟨#[]⟩ ∧ 0 ≤ p.f1 ∧ p.f1 < 18446744073709551616
theorem unesc_esc : ∀ (m acc r : List UInt8), Esc.unesc acc (Esc.esc m ++ 0 :: 0 :: r) = some (acc ++ m, r)
  | [], acc, r => by simp [Esc.esc, Esc.unesc]
  | x :: m, acc, r => by
    by_cases h0 : x = 0
    · subst h0
      rw [Esc.esc, if_pos rfl, List.cons_append, List.cons_append, Esc.unesc, if_pos rfl, if_neg (by decide), if_pos rfl, unesc_esc m _ r]
      simp
    · rw [Esc.esc, if_neg h0, List.cons_append]
      have ih := unesc_esc m (acc ++ [x]) r
      obtain ⟨y, q, hy⟩ : ∃ y q, Esc.esc m ++ 0 :: 0 :: r = y :: q := by
        cases hh : Esc.esc m ++ 0 :: 0 :: r with
        | nil => simp at hh
        | cons y q => exact ⟨y, q, rfl⟩
      rw [hy] at ih ⊢
      rw [Esc.unesc, if_neg h0, ih]
      simp
theorem esc_unesc : ∀ (l acc a z : List UInt8), Esc.unesc acc l = some (a, z) → ∃ m, a = acc ++ m ∧ l = Esc.esc m ++ 0 :: 0 :: z
  | [], _, _, _, h => by simp [Esc.unesc] at h
  | [x], _, _, _, h => by simp [Esc.unesc] at h
  | x :: y :: l, acc, a, z, h => by
    rw [Esc.unesc] at h
    by_cases h0 : x = 0
    · rw [if_pos h0] at h
      by_cases h1 : y = 0
      · rw [if_pos h1] at h
        simp only [Option.some.injEq, Prod.mk.injEq] at h
        exact ⟨[], by simp [h.1], by rw [h0, h1, h.2]; rfl⟩
      · rw [if_neg h1] at h
        by_cases h2 : y = 255
        · rw [if_pos h2] at h
          obtain ⟨m, e1, e2⟩ := esc_unesc l _ a z h
          refine ⟨0 :: m, by rw [e1]; simp, ?_⟩
          rw [Esc.esc, if_pos rfl, h0, h2, e2]
          rfl
        · rw [if_neg h2] at h
          exact absurd h (by simp)
    · rw [if_neg h0] at h
      obtain ⟨m, e1, e2⟩ := esc_unesc (y :: l) _ a z h
      refine ⟨x :: m, by rw [e1]; simp, ?_⟩
      rw [Esc.esc, if_neg h0, e2]
      rfl
theorem ba_eta (s : ByteArray) : (⟨s.data.toList.toArray⟩ : ByteArray) = s := by rw [Array.toArray_toList]
theorem oneS_part (p : PartT) (h : okP p) (r : List UInt8) : oneS (partU p ++ r) = some (p, r) := by
  obtain ⟨t, n, s⟩ := p
  unfold okP at h
  unfold partU
  by_cases ht : t = true
  · subst ht
    simp only [if_true] at h ⊢
    subst h
    rw [List.cons_append, oneS_cons, if_neg (by decide), if_pos rfl, List.append_assoc]
    have := unesc_esc s.data.toList [] r
    simp only [List.cons_append, List.nil_append] at this ⊢
    rw [this]
  · simp only [Bool.not_eq_true] at ht
    subst ht
    simp only [Bool.false_eq_true, if_false] at h ⊢
    obtain ⟨rfl, h0, h1⟩ := h
    rw [List.cons_append, oneS_cons, if_pos rfl, if_pos (by rw [List.length_append, be8U_length]; omega), List.take_left' (be8U_length n), List.drop_left' (be8U_length n), un8_be8U n h0 h1]
theorem part_oneS (l : List UInt8) (p : PartT) (r : List UInt8) (h : oneS l = some (p, r)) : l = partU p ++ r ∧ okP p := by
  cases l with
  | nil => simp [oneS] at h
  | cons c q =>
    rw [oneS_cons] at h
    by_cases h1 : c = 1
    · rw [if_pos h1] at h
      by_cases h8 : 8 ≤ q.length
      · rw [if_pos h8] at h
        simp only [Option.some.injEq, Prod.mk.injEq] at h
        obtain ⟨rfl, rfl⟩ := h
        have ht := be8U_un8 (q.take 8) (by rw [List.length_take]; omega)
        refine ⟨?_, ?_⟩
        · unfold partU
          simp only [Bool.false_eq_true, if_false]
          rw [ht.1, List.cons_append, List.take_append_drop, h1]
        · unfold okP
          simp only [Bool.false_eq_true, if_false]
          exact ⟨by first | trivial | rfl, ht.2⟩
      · rw [if_neg h8] at h
        exact absurd h (by simp)
    · rw [if_neg h1] at h
      by_cases h2 : c = 2
      · rw [if_pos h2] at h
        cases hu : Esc.unesc [] q with
        | none => rw [hu] at h; exact absurd h (by simp)
        | some az =>
          obtain ⟨a, z⟩ := az
          rw [hu] at h
          simp only [Option.some.injEq, Prod.mk.injEq] at h
          obtain ⟨rfl, rfl⟩ := h
          obtain ⟨m, e1, e2⟩ := esc_unesc q [] a z hu
          rw [List.nil_append] at e1
          subst e1
          refine ⟨?_, ?_⟩
          · unfold partU
            simp only [if_true]
            rw [e2, h2]
            simp
          · unfold okP
            simp
      · rw [if_neg h2] at h
        exact absurd h (by simp)
theorem partU_ne (p : PartT) : partU p ≠ [] := by
  unfold partU
  split <;> simp
theorem partsB_key : ∀ (l : List PartT) (f : Nat) (acc : List PartT), acc.length + f = 9 → acc.length + l.length ≤ 8 → (∀ p ∈ l, okP p) → partsB f (keyU l) acc = (acc ++ l, 0)
  | [], f, acc, hf, hl, _ => by
    obtain ⟨g, rfl⟩ : ∃ g, f = g + 1 := ⟨f - 1, by simp at hl; omega⟩
    simp [partsB, keyU]
  | p :: l, f, acc, hf, hl, h => by
    simp only [List.length_cons] at hl
    obtain ⟨g, rfl⟩ : ∃ g, f = g + 1 := ⟨f - 1, by omega⟩
    have e : keyU (p :: l) = partU p ++ keyU l := by simp only [keyU, List.flatMap_cons]
    rw [e, partsB, if_neg (by intro e2; exact partU_ne p (List.append_eq_nil_iff.mp e2).1), if_neg (by omega), oneS_part p (h p (List.mem_cons_self ..))]
    have := partsB_key l g (acc ++ [p]) (by rw [List.length_append]; simp; omega) (by rw [List.length_append]; simp; omega) (fun q hq => h q (List.mem_cons_of_mem _ hq))
    simp only [this, List.append_assoc, List.cons_append, List.nil_append]
theorem key_partsB : ∀ (f : Nat) (x : List UInt8) (acc l : List PartT), partsB f x acc = (l, 0) → acc.length + f = 9 → ∃ m, l = acc ++ m ∧ x = keyU m ∧ (∀ p ∈ m, okP p) ∧ l.length ≤ 8
  | 0, x, acc, l, h, _ => by simp [partsB] at h
  | f + 1, x, acc, l, h, hf => by
    rw [partsB] at h
    by_cases h0 : x = []
    · rw [if_pos h0] at h
      simp only [Prod.mk.injEq] at h
      exact ⟨[], by simp [h.1], by rw [h0]; rfl, by simp, by rw [← h.1]; omega⟩
    · rw [if_neg h0] at h
      by_cases h8 : acc.length = 8
      · rw [if_pos h8] at h
        simp at h
      · rw [if_neg h8] at h
        cases ho : oneS x with
        | none => rw [ho] at h; simp at h
        | some pq =>
          obtain ⟨p, q⟩ := pq
          rw [ho] at h
          obtain ⟨e1, hp⟩ := part_oneS x p q ho
          obtain ⟨m, e2, e3, hm, hl⟩ := key_partsB f q (acc ++ [p]) l h (by rw [List.length_append]; simp; omega)
          refine ⟨p :: m, by rw [e2]; simp, ?_, ?_, hl⟩
          · rw [e1, e3]
            simp only [keyU, List.flatMap_cons]
          · intro z hz
            rcases List.mem_cons.mp hz with rfl | hz
            · exact hp
            · exact hm z hz
end Go.Proofs.YtagdmgjdhbmaiaaDoor.R

/- What the Go functions of the Sieve laws come to, in plain words. -/
import Derived.Test.YtmnkdagfgfcnjaaRx1
namespace Go.Proofs.Ytmnkdagfgfcnjaa.R
open Go.RowKit Go.Proofs.YtmnkdagfgfcnjaaW.PrintWords Go.Proofs.Ytmnkdagfgfcnjaa.Plain
set_option linter.unusedVariables false

/-! ### bits of bytes -/
theorem or8 (a b : Int) : Go.bits .or .u8 a b = (((BitVec.ofInt 8 a ||| BitVec.ofInt 8 b).toNat : Nat) : Int) := by
  show IntKind.u8.wrap (((BitVec.ofInt 8 a ||| BitVec.ofInt 8 b).toNat : Nat) : Int) = _
  have := (BitVec.ofInt 8 a ||| BitVec.ofInt 8 b).isLt
  rw [IntKind.wrap_u8]
  omega
theorem and8 (a b : Int) : Go.bits .and .u8 a b = (((BitVec.ofInt 8 a &&& BitVec.ofInt 8 b).toNat : Nat) : Int) := by
  show IntKind.u8.wrap (((BitVec.ofInt 8 a &&& BitVec.ofInt 8 b).toNat : Nat) : Int) = _
  have := (BitVec.ofInt 8 a &&& BitVec.ofInt 8 b).isLt
  rw [IntKind.wrap_u8]
  omega
theorem of8 (v : BitVec 8) : BitVec.ofInt 8 ((v.toNat : Nat) : Int) = v := by simp
theorem and8_ne (a b : Int) : (Go.bits .and .u8 a b != 0) = (BitVec.ofInt 8 a &&& BitVec.ofInt 8 b != 0#8) := by
  rw [and8, Bool.eq_iff_iff, bne_iff_ne, bne_iff_ne]
  constructor
  · intro h e
    rw [e] at h
    exact h rfl
  · intro h e
    exact h (BitVec.eq_of_toNat_eq (by simpa using e))
/-- One bit is set. -/
def putS (b : List Int) (p q : Int) : List Int := b.set p.toNat (Go.bits .or .u8 (rd b p) q)
theorem putS_length (b : List Int) (p q : Int) : (putS b p q).length = b.length := by unfold putS; rw [List.length_set]
theorem rd_putS (b : List Int) (p q x : Int) : rd (putS b p q) x = if p.toNat = x.toNat ∧ p.toNat < b.length then Go.bits .or .u8 (rd b x) q else rd b x := by
  unfold rd putS
  simp only [List.getD_eq_getElem?_getD, List.getElem?_set]
  by_cases h : p.toNat = x.toNat
  · by_cases h2 : p.toNat < b.length
    · rw [if_pos h, if_pos h2, if_pos ⟨h, h2⟩]
      simp [rd, h]
    · rw [if_pos h, if_neg h2, if_neg (fun z => h2 z.2)]
      rw [List.getElem?_eq_none (by omega)]
  · rw [if_neg h, if_neg (fun z => h z.1)]
theorem putS_comm (b : List Int) (p q x y : Int) : putS (putS b p q) x y = putS (putS b x y) p q := by
  by_cases h : p.toNat = x.toNat
  · by_cases h2 : p.toNat < b.length
    · have e1 : rd (putS b p q) x = Go.bits .or .u8 (rd b x) q := by rw [rd_putS, if_pos ⟨h, h2⟩]
      have e2 : rd (putS b x y) p = Go.bits .or .u8 (rd b p) y := by rw [rd_putS, if_pos ⟨h.symm, h ▸ h2⟩]
      have e3 : rd b x = rd b p := by unfold rd; rw [h]
      show (putS b p q).set x.toNat (Go.bits .or .u8 (rd (putS b p q) x) y) = (putS b x y).set p.toNat (Go.bits .or .u8 (rd (putS b x y) p) q)
      rw [e1, e2, e3]
      unfold putS
      rw [← h, List.set_set, List.set_set]
      congr 1
      simp only [or8, of8, BitVec.or_assoc]
      rw [BitVec.or_comm (BitVec.ofInt 8 q)]
    · have n1 : ∀ (b : List Int) (p q : Int), ¬ p.toNat < b.length → putS b p q = b := fun b p q hh => List.set_eq_of_length_le (by omega)
      rw [n1 b p q h2, n1 b x y (h ▸ h2), n1 b p q h2]
  · have e1 : rd (putS b p q) x = rd b x := by rw [rd_putS, if_neg (fun z => h z.1)]
    have e2 : rd (putS b x y) p = rd b p := by rw [rd_putS, if_neg (fun z => h z.1.symm)]
    show (putS b p q).set x.toNat (Go.bits .or .u8 (rd (putS b p q) x) y) = (putS b x y).set p.toNat (Go.bits .or .u8 (rd (putS b x y) p) q)
    rw [e1, e2]
    unfold putS
    exact List.set_comm _ _ h
/-- Is a bit there? -/
def isS (b : List Int) (p q : Int) : Bool := Go.bits .and .u8 (rd b p) q != 0
theorem isS_keep (b : List Int) (p q x y : Int) (h : isS b x y = true) : isS (putS b p q) x y = true := by
  unfold isS at *
  rw [rd_putS]
  split
  · rw [and8_ne] at *
    rw [or8, of8]
    simp only [bne_iff_ne, ne_eq] at *
    intro e
    apply h
    rw [BitVec.and_comm, BitVec.and_or_distrib_left, BitVec.or_eq_zero_iff] at e
    rw [BitVec.and_comm]
    exact e.1
  · exact h
theorem isS_put (b : List Int) (p q : Int) (h : p.toNat < b.length) (hq : BitVec.ofInt 8 q ≠ 0#8) : isS (putS b p q) p q = true := by
  unfold isS
  rw [rd_putS, if_pos ⟨rfl, h⟩, and8_ne, or8, of8]
  simp only [bne_iff_ne, ne_eq]
  intro e
  rw [BitVec.and_comm, BitVec.and_or_distrib_left, BitVec.or_eq_zero_iff] at e
  rw [BitVec.and_self] at e
  exact hq e.2

/-! ### a key's bits -/
theorem setBits_succ (s : ByteArray) (n i : Nat) (b : List Int) : setBits s n (i + 1) b = putS (setBits s n i b) (atS s n i) (bitS s n i) := rfl
theorem hasBits_succ (s : ByteArray) (b : List Int) (i : Nat) : hasBits s b (i + 1) = (hasBits s b i && isS b (atS s b.length i) (bitS s b.length i)) := rfl
theorem pow8 : ∀ j : Fin 8, BitVec.ofInt 8 ((2 : Int) ^ j.val % 256) ≠ 0#8 ∧ Go.bits .and .u8 255 ((2 : Int) ^ j.val % 256) ≠ 0 ∧ Go.bits .and .u8 0 ((2 : Int) ^ j.val % 256) = 0 := by decide +kernel
theorem shr8 : ∀ (j : Fin 8) (v : Fin 256), (Int.tmod (((v.val : Nat) : Int) / 2 ^ j.val) 2 = 0) ↔ Go.bits .and .u8 ((v.val : Nat) : Int) ((2 : Int) ^ j.val % 256) = 0 := by decide +kernel
def plS (s : ByteArray) (n i : Nat) : Int := placeS (lowS (hashUp s s.size)) (highS (hashUp s s.size)) n i
theorem pl_range (s : ByteArray) (n i : Nat) (hn : 1 ≤ n) : 0 ≤ plS s n i ∧ plS s n i < 8 * n := by
  unfold plS placeS
  exact ⟨Int.emod_nonneg _ (by omega), Int.emod_lt_of_pos _ (by omega)⟩
theorem bit_fin (s : ByteArray) (n i : Nat) : ∃ j : Fin 8, j.val = (plS s n i % 8).toNat ∧ bitS s n i = (2 : Int) ^ j.val % 256 := by
  refine ⟨⟨(plS s n i % 8).toNat, by omega⟩, rfl, rfl⟩
theorem setBits_comm (s t : ByteArray) (n m : Nat) (b : List Int) : ∀ i j, setBits s n i (setBits t m j b) = setBits t m j (setBits s n i b) := by
  have one : ∀ (i : Nat) (b : List Int) (p q : Int), setBits s n i (putS b p q) = putS (setBits s n i b) p q := by
    intro i
    induction i with
    | zero => exact fun _ _ _ => rfl
    | succ i ih => exact fun b p q => by rw [setBits_succ, setBits_succ, ih, putS_comm]
  intro i j
  induction j with
  | zero => rfl
  | succ j ih => rw [setBits_succ, setBits_succ, one, ih]
theorem isS_kept (s : ByteArray) (n : Nat) (b : List Int) (x y : Int) (h : isS b x y = true) : ∀ i, isS (setBits s n i b) x y = true
  | 0 => h
  | i + 1 => by rw [setBits_succ]; exact isS_keep _ _ _ _ _ (isS_kept s n b x y h i)
theorem hasBits_kept (s t : ByteArray) (n : Nat) (b : List Int) (j : Nat) : ∀ i, hasBits s b i = true → hasBits s (setBits t n j b) i = true
  | 0, _ => rfl
  | i + 1, h => by
    rw [hasBits_succ, Bool.and_eq_true] at h
    rw [hasBits_succ, hasBits_kept s t n b j i h.1, setBits_length, Bool.true_and]
    exact isS_kept t n b _ _ h.2 j
theorem hasBits_set (s : ByteArray) (b : List Int) (hb : 1 ≤ b.length) : ∀ i, hasBits s (setBits s b.length i b) i = true
  | 0 => rfl
  | i + 1 => by
    have hr := at_range s b.length i hb
    obtain ⟨j, _, hj⟩ := bit_fin s b.length i
    have keep : ∀ k, hasBits s (setBits s b.length i b) k = true → hasBits s (putS (setBits s b.length i b) (atS s b.length i) (bitS s b.length i)) k = true := by
      intro k
      induction k with
      | zero => exact fun _ => rfl
      | succ k ih =>
        intro h
        rw [hasBits_succ, Bool.and_eq_true] at h
        rw [hasBits_succ, ih h.1, putS_length, Bool.true_and]
        exact isS_keep _ _ _ _ _ h.2
    rw [setBits_succ, hasBits_succ, keep i (hasBits_set s b hb i), putS_length, setBits_length, Bool.true_and]
    refine isS_put _ _ _ (by rw [setBits_length]; omega) ?_
    rw [hj]
    exact (pow8 j).1
theorem foldBits_length (n : Nat) (l : List ByteArray) : ∀ (b : List Int), (l.foldl (fun b s => setBits s n 4 b) b).length = b.length := by
  induction l with
  | nil => exact fun _ => rfl
  | cons s t ih => exact fun b => by rw [List.foldl_cons, ih, setBits_length]
theorem foldBits_kept (n : Nat) (s : ByteArray) (l : List ByteArray) : ∀ (b : List Int), hasBits s b 4 = true → hasBits s (l.foldl (fun b s => setBits s n 4 b) b) 4 = true := by
  induction l with
  | nil => exact fun _ h => h
  | cons t l ih => exact fun b h => ih _ (hasBits_kept s t n b 4 4 h)
theorem foldBits_has (n : Nat) (hn : 1 ≤ n) (s : ByteArray) (l : List ByteArray) : ∀ (b : List Int), b.length = n → s ∈ l → hasBits s (l.foldl (fun b s => setBits s n 4 b) b) 4 = true := by
  induction l with
  | nil => intro b _ h; cases h
  | cons t l ih =>
    intro b hb h
    rcases List.mem_cons.mp h with rfl | h
    · refine foldBits_kept n s l _ ?_
      have := hasBits_set s b (by omega) 4
      rwa [hb] at this
    · exact ih _ (by rw [setBits_length, hb]) h

/-! ### sieves -/
theorem many_range (l : List ByteArray) (h : ¬ 1024 < l.length) : 8 ≤ manyS l ∧ manyS l ≤ 1024 := by unfold manyS; omega
/-- Where a sieve is made it is one, it has so many bytes, and lets all its keys through. -/
theorem makeS_ok {l : List ByteArray} (h : (makeS l).2 = 0) : ¬ 1024 < l.length ∧ l.all keyedS = true ∧ (makeS l).1 = l.foldl (fun b s => setBits s (manyS l) 4 b) (List.replicate (manyS l) 0) := by
  unfold makeS at *
  by_cases h1 : 1024 < l.length
  · rw [if_pos h1] at h; cases h
  · rw [if_neg h1] at *
    by_cases h2 : l.all keyedS = true
    · rw [if_pos h2]; exact ⟨h1, h2, rfl⟩
    · rw [if_neg h2] at h; cases h
theorem makeS_length {l : List ByteArray} (h : (makeS l).2 = 0) : (makeS l).1.length = manyS l := by
  rw [(makeS_ok h).2.2, foldBits_length, List.length_replicate]
theorem makeS_check {l : List ByteArray} (h : (makeS l).2 = 0) : checkS (makeS l).1 = 0 := by
  have h1 := makeS_length h
  have h2 := many_range l (makeS_ok h).1
  unfold checkS
  rw [if_neg (by omega), if_neg (by omega)]
theorem makeS_bad {l : List ByteArray} (h : (makeS l).2 ≠ 0) : (makeS l).1 = [] := by
  unfold makeS at *
  by_cases h1 : 1024 < l.length
  · rw [if_pos h1]
  · rw [if_neg h1] at *
    by_cases h2 : l.all keyedS = true
    · rw [if_pos h2] at h; exact absurd rfl h
    · rw [if_neg h2]
theorem makeS_may {l : List ByteArray} (h : (makeS l).2 = 0) {s : ByteArray} (hs : s ∈ l) : mayS (makeS l).1 s = (true, 0) := by
  unfold mayS
  obtain ⟨h1, h2, h3⟩ := makeS_ok h
  rw [if_pos (makeS_check h), if_pos (List.all_eq_true.mp h2 s hs), h3, foldBits_has (manyS l) (by have := many_range l h1; omega) s l _ (by simp) hs]
theorem setBits_full (s : ByteArray) (n : Nat) (hn : 1 ≤ n) : hasBits s (List.replicate n 255) 4 = true := by
  have : ∀ i, hasBits s (List.replicate n 255) i = true := by
    intro i
    induction i with
    | zero => rfl
    | succ i ih =>
      have hr := at_range s n i hn
      obtain ⟨j, _, hj⟩ := bit_fin s n i
      rw [hasBits_succ, ih, List.length_replicate, Bool.true_and]
      unfold isS rd
      rw [List.getD_eq_getElem?_getD, List.getElem?_replicate, if_pos (by omega), hj]
      exact bne_iff_ne.mpr (pow8 j).2.1
  exact this 4
theorem setBits_none (s : ByteArray) (n : Nat) (hn : 1 ≤ n) : hasBits s (List.replicate n 0) 4 = false := by
  have : hasBits s (List.replicate n 0) 1 = false := by
    have hr := at_range s n 0 hn
    obtain ⟨j, _, hj⟩ := bit_fin s n 0
    rw [hasBits_succ, List.length_replicate]
    unfold isS rd
    rw [List.getD_eq_getElem?_getD, List.getElem?_replicate, if_pos (by omega), hj]
    show (hasBits s _ 0 && (Go.bits .and .u8 0 _ != 0)) = false
    rw [(pow8 j).2.2]
    rfl
  exact hasBits_stop s _ 3 1 this
theorem twoK : ([(⟨#[97]⟩ : ByteArray), (⟨#[98]⟩ : ByteArray)] : List ByteArray).all keyedS = true := by decide
theorem alive_eq : millhandlaw13_alive.f = some true := by
  obtain ⟨l, hl⟩ : ∃ l, l = ([(⟨#[97]⟩ : ByteArray), (⟨#[98]⟩ : ByteArray)] : List ByteArray) := ⟨_, rfl⟩
  have h0 : (makeS l).2 = 0 := by
    unfold makeS
    rw [if_neg (by rw [hl]; decide), if_pos (by rw [hl]; exact twoK)]
  have hlen : (makeS l).1.length = 8 := by rw [makeS_length h0, hl]; rfl
  have ha := makeS_may h0 (s := ⟨#[97]⟩) (by rw [hl]; simp)
  have hb := makeS_may h0 (s := ⟨#[98]⟩) (by rw [hl]; simp)
  unfold millhandlaw13_alive.f sieve_Make.f sieve_May.f
  rw [← hl]
  simp only [Option.bind_some]
  rw [ha, hb, if_pos h0, if_pos rfl, if_pos rfl, if_pos rfl, if_pos rfl, hlen]
  rfl
theorem rd_key (l : List ByteArray) (i : Nat) (h : i < l.length) : rdOf ByteArray.empty l (i : Int) = l[i] := by
  simp [rdOf, List.getD_eq_getElem?_getD, List.getElem?_eq_getElem h]
theorem sieve_Check_eq (b : List Int) : sieve_Check.f b = some (checkS b) := by
  unfold sieve_Check.f checkS
  by_cases h1 : (b.length : Int) < 8
  · rw [if_pos h1, if_pos (show b.length < 8 by omega)]
  · rw [if_neg h1, if_neg (show ¬ b.length < 8 by omega)]
    by_cases h2 : (b.length : Int) > 1024
    · rw [if_pos h2, if_pos (show b.length > 1024 by omega)]
    · rw [if_neg h2, if_neg (show ¬ b.length > 1024 by omega)]
end Go.Proofs.Ytmnkdagfgfcnjaa.R

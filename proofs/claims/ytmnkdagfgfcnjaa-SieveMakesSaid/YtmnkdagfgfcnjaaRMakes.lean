/- The law SieveMakes in plain words. -/
import Derived.Test.YtmnkdagfgfcnjaaRx4
import Derived.Test.YtmnkdagfgfcnjaaRx3
import Derived.Test.YtmnkdagfgfcnjaaRx2
import Derived.Test.YtmnkdagfgfcnjaaRPlain
import Derived.Laws.BitsLemmas
namespace Go.Proofs.Ytmnkdagfgfcnjaa.R
open Go.RowKit Go.Proofs.YtmnkdagfgfcnjaaW.PrintWords Go.Proofs.Ytmnkdagfgfcnjaa.Plain
set_option linter.unusedVariables false

theorem ref13_Heavy_l0 (l : List ByteArray) (hl : l.length < 9223372036854775807) : ∀ (d i : Nat) (n : Int), i + d = l.length → ∃ r, Ev (fun k => millhandref13_Heavy.l0 k l n (i : Int)) r
  | 0, i, n, h => by
    by_cases h1 : (l.length : Int) > 1100
    · exact ⟨_, Ev.step (fun _ => millhandref13_Heavy.l0.eq_2 ..) (ev_neg (by omega) (ev_pos h1 (Ev.now _)))⟩
    · exact ⟨_, Ev.step (fun _ => millhandref13_Heavy.l0.eq_2 ..) (ev_neg (by omega) (ev_neg h1 (Ev.now _)))⟩
  | d + 1, i, n, h => by
    by_cases h2 : (i : Int) < 2000
    · obtain ⟨r, hr⟩ := ref13_Heavy_l0 l hl d (i + 1) (wrap64 (n + (mn ((rdOf ByteArray.empty l (i : Int)).size : Int) 100000))) (by omega)
      refine ⟨r, Ev.step (fun _ => millhandref13_Heavy.l0.eq_2 ..) (ev_pos (by omega) (ev_pos h2 (ev_pos (by omega) ?_)))⟩
      rw [w64 (i := (i : Int) + 1) (by omega) (by omega)]
      exact hr
    · by_cases h1 : (l.length : Int) > 1100
      · exact ⟨_, Ev.step (fun _ => millhandref13_Heavy.l0.eq_2 ..) (ev_pos (by omega) (ev_neg h2 (ev_pos h1 (Ev.now _))))⟩
      · exact ⟨_, Ev.step (fun _ => millhandref13_Heavy.l0.eq_2 ..) (ev_pos (by omega) (ev_neg h2 (ev_neg h1 (Ev.now _))))⟩
theorem ref13_Heavy_ev (l : List ByteArray) (hl : l.length < 9223372036854775807) : ∃ r, Ev (fun k => millhandref13_Heavy.f k l) r := by
  unfold millhandref13_Heavy.f
  exact ref13_Heavy_l0 l hl l.length 0 0 (by omega)

/-! ### the document's own sieves -/
theorem hash_range (s : ByteArray) (i : Nat) : 0 ≤ hashUp s i ∧ hashUp s i < 18446744073709551616 := by
  cases i with
  | zero => exact ⟨by show (0 : Int) ≤ 14695981039346656037; decide, by show (14695981039346656037 : Int) < 18446744073709551616; decide⟩
  | succ i => exact u64_rng _
theorem ref13_hash_l0 (s : ByteArray) (hs : s.size < 9223372036854775807) : ∀ (d i : Nat), i + d = s.size → Ev (fun k => millhandref13_hash.l0 k s (hashUp s i) (i : Int)) (hashUp s s.size)
  | 0, i, h => Ev.step (fun _ => millhandref13_hash.l0.eq_2 ..) (ev_neg (by omega) (ev_some (by rw [show i = s.size by omega])))
  | d + 1, i, h => by
    refine Ev.step (fun _ => millhandref13_hash.l0.eq_2 ..) (ev_pos (by omega) (ev_pos (by omega) ?_))
    rw [w64 (by omega) (by omega)]
    exact ref13_hash_l0 s hs d (i + 1) (by omega)
theorem ref13_hash_ev (s : ByteArray) (hs : s.size < 9223372036854775807) : Ev (fun k => millhandref13_hash.f k s) (hashUp s s.size) := by
  unfold millhandref13_hash.f
  exact ref13_hash_l0 s hs s.size 0 (by omega)
theorem wraps_u64 (n : Int) (h0 : 0 ≤ n) (h1 : n < 2 ^ 64) : IntKind.u64.wrap n = n := u64w_in h0 (by omega)
theorem low_eq {h : Int} (h0 : 0 ≤ h) (h1 : h < 18446744073709551616) : lowS h = h % 4294967296 :=
  bits_mask .u64 64 (by decide) wraps_u64 32 (by decide) h h0 (by omega)
theorem or1 (n : Nat) (h : n < 18446744073709551615) : Go.bits .or .u64 (n : Int) 1 = if n % 2 = 0 then ((n + 1 : Nat) : Int) else (n : Int) := by
  have e := (bits_nat .u64 64 (by decide) wraps_u64 n 1 (by omega) (by decide)).2
  rw [show ((1 : Int)) = ((1 : Nat) : Int) from rfl, e]
  by_cases h2 : n % 2 = 0
  · rw [if_pos h2]
    have := @Nat.two_pow_add_eq_or_of_lt 1 1 (by decide) (n / 2)
    rw [show 2 ^ 1 * (n / 2) = n by omega] at this
    rw [this]
  · rw [if_neg h2]
    have := @Nat.two_pow_add_eq_or_of_lt 1 1 (by decide) (n / 2)
    rw [show 2 ^ 1 * (n / 2) + 1 = n by omega] at this
    rw [this, Nat.or_assoc, Nat.or_self]
theorem ref13_Bits_round (lo hi : Int) (n : Nat) (hn : 1 ≤ n) (hn2 : n ≤ 100000) (i : Nat) (hi4 : i < 4) (acc : List Int) (ha : acc.length < 10) (r : List Int)
    (k : Ev (fun k => millhandref13_Bits.l0 k (8 * (n : Int)) lo hi (acc ++ [placeS lo hi n i]) ((i + 1 : Nat) : Int)) r) : Ev (fun k => millhandref13_Bits.l0 k (8 * (n : Int)) lo hi acc (i : Int)) r := by
  have hw : IntKind.u64.wrap (8 * (n : Int)) = 8 * (n : Int) := u64w_in (by omega) (by omega)
  have hp : 0 ≤ placeS lo hi n i ∧ placeS lo hi n i < 8 * n := by
    unfold placeS
    exact ⟨Int.emod_nonneg _ (by omega), Int.emod_lt_of_pos _ (by omega)⟩
  have hx : wrap64 (Int.tmod (IntKind.u64.wrap (lo + IntKind.u64.wrap ((i : Int) * hi))) (8 * (n : Int))) = placeS lo hi n i := by
    rw [Int.tmod_eq_emod_of_nonneg (u64_rng _).1]
    exact w64 (by unfold placeS at hp; omega) (by unfold placeS at hp; omega)
  refine Ev.step (fun _ => millhandref13_Bits.l0.eq_2 ..) (ev_pos (by omega) ?_)
  rw [hw, hx, u64w_in (i := (i : Int) + 1) (by omega) (by omega)]
  exact ev_neg (by omega) (ev_pos (by omega) k)
def placesS (s : ByteArray) (n : Nat) : List Int := [plS s n 0, plS s n 1, plS s n 2, plS s n 3]
theorem ref13_Bits_ev (s : ByteArray) (hs : s.size < 9223372036854775807) (n : Nat) (hn : 1 ≤ n) (hn2 : n ≤ 100000) : Ev (fun k => millhandref13_Bits.f k s (8 * (n : Int))) (placesS s n) := by
  unfold millhandref13_Bits.f
  refine Ev.bind (ref13_hash_ev s hs) ?_
  obtain ⟨h0, h1⟩ := hash_range s s.size
  have base : Ev (fun k => millhandref13_Bits.j0 k (8 * (n : Int)) (lowS (hashUp s s.size)) (highS (hashUp s s.size))) (placesS s n) := by
    refine Ev.step (fun _ => millhandref13_Bits.j0.eq_2 ..) ?_
    refine ref13_Bits_round _ _ n hn hn2 0 (by decide) [] (by decide) _ ?_
    refine ref13_Bits_round _ _ n hn hn2 1 (by decide) _ (by simp) _ ?_
    refine ref13_Bits_round _ _ n hn hn2 2 (by decide) _ (by simp) _ ?_
    refine ref13_Bits_round _ _ n hn hn2 3 (by decide) _ (by simp) _ ?_
    exact Ev.step (fun _ => millhandref13_Bits.l0.eq_2 ..) (ev_neg (by decide) (ev_some rfl))
  obtain ⟨H, hH⟩ := Int.eq_ofNat_of_zero_le h0
  have e1 : Int.tmod (hashUp s s.size) 4294967296 = lowS (hashUp s s.size) := by rw [low_eq h0 h1, Int.tmod_eq_emod_of_nonneg h0]
  have e2 : IntKind.u64.wrap (Int.tdiv (hashUp s s.size) 4294967296) = ((H / 4294967296 : Nat) : Int) := by
    rw [hH, Int.tdiv_eq_ediv_of_nonneg (by omega), u64w_in (by omega) (by omega)]
    omega
  have e3 : highS (hashUp s s.size) = if (H / 4294967296) % 2 = 0 then ((H / 4294967296 + 1 : Nat) : Int) else ((H / 4294967296 : Nat) : Int) := by
    unfold highS
    rw [hH, show ((H : Int) / 4294967296) = ((H / 4294967296 : Nat) : Int) by omega]
    exact or1 _ (by omega)
  simp only [e1, e2]
  by_cases h2 : (H / 4294967296) % 2 = 0
  · rw [if_pos h2] at e3
    refine ev_pos (by rw [Int.tmod_eq_emod_of_nonneg (by omega)]; omega) ?_
    rw [u64w_in (by omega) (by omega), show (((H / 4294967296 : Nat) : Int) + 1) = highS (hashUp s s.size) by rw [e3]; omega]
    exact base
  · rw [if_neg h2] at e3
    refine ev_neg (by rw [Int.tmod_eq_emod_of_nonneg (by omega)]; omega) ?_
    rw [← e3]
    exact base
theorem ref13_keyed_eq (s : ByteArray) : millhandref13_keyed.f s = some (keyedS s) := by
  unfold millhandref13_keyed.f keyedS
  by_cases h : (s.size : Int) ≥ 1
  · rw [if_pos h]
    have h' : 1 ≤ s.size := by omega
    simp [h']
    omega
  · rw [if_neg h]
    have h' : ¬ 1 ≤ s.size := by omega
    simp [h']
theorem ref13_Check_eq (b : List Int) : millhandref13_Check.f b = some (checkS b) := by
  unfold millhandref13_Check.f checkS
  by_cases h1 : (b.length : Int) < 8
  · rw [if_pos h1, if_pos (show b.length < 8 by omega)]
  · rw [if_neg h1, if_neg (show ¬ b.length < 8 by omega)]
    by_cases h2 : (b.length : Int) > 1024
    · rw [if_pos h2, if_pos (show b.length > 1024 by omega)]
    · rw [if_neg h2, if_neg (show ¬ b.length > 1024 by omega)]
theorem rd_at (l : List Int) (i : Nat) (h : i < l.length) : rd l (i : Int) = l[i] := by
  simp [rd, List.getD_eq_getElem?_getD, List.getElem?_eq_getElem h]
def bitP (p : Int) : Int := 2 ^ (p % 8).toNat % 256
theorem shl_bit (p : Int) (h0 : 0 ≤ p) (h1 : p < 1000000) : shl .u8 1 (IntKind.u64.wrap (Int.tmod p 8)) = bitP p := by
  unfold shl bitP
  rw [Int.tmod_eq_emod_of_nonneg h0, u64w_in (by omega) (by omega), IntKind.wrap_u8, Nat.min_eq_left (by show _ ≤ 8; omega), Int.one_mul]
theorem shr_bit (p v : Int) (h0 : 0 ≤ p) (h1 : p < 1000000) (v0 : 0 ≤ v) (v1 : v ≤ 255) : (Int.tmod (shr .u8 v (IntKind.u64.wrap (Int.tmod p 8))) 2 = 0) ↔ Go.bits .and .u8 v (bitP p) = 0 := by
  unfold shr bitP
  rw [Int.tmod_eq_emod_of_nonneg h0, u64w_in (by omega) (by omega), Nat.min_eq_left (by show _ ≤ 8; omega)]
  obtain ⟨n, rfl⟩ := Int.eq_ofNat_of_zero_le v0
  exact shr8 ⟨(p % 8).toNat, by omega⟩ ⟨n, by omega⟩
theorem rd_byte {b : List Int} (hb : ∀ x ∈ b, 0 ≤ x ∧ x ≤ 255) (i : Int) : 0 ≤ rd b i ∧ rd b i ≤ 255 := by
  unfold rd
  rw [List.getD_eq_getElem?_getD]
  by_cases h : i.toNat < b.length
  · rw [List.getElem?_eq_getElem h]
    exact hb _ (List.getElem_mem h)
  · rw [List.getElem?_eq_none (by omega)]
    exact ⟨by decide, by decide⟩
theorem ref13_May_l0 (b L : List Int) (hb : ∀ x ∈ b, 0 ≤ x ∧ x ≤ 255) (hn : b.length ≤ 100000) (hL : ∀ p ∈ L, 0 ≤ p ∧ p < 8 * b.length) (hl : L.length < 1000) : ∀ (d j : Nat), j + d = L.length →
    Ev (fun k => millhandref13_May.l0 k b L (j : Int)) ((L.drop j).all (fun p => isS b (p / 8) (bitP p)), 0)
  | 0, j, h => by
    rw [List.drop_of_length_le (by omega)]
    exact Ev.step (fun _ => millhandref13_May.l0.eq_2 ..) (ev_neg (by omega) (ev_some rfl))
  | d + 1, j, h => by
    have hj : j < L.length := by omega
    have hp := hL _ (List.getElem_mem hj)
    have hv := rd_byte hb (L[j] / 8)
    have e1 : wrap64 (Int.tdiv L[j] 8) = L[j] / 8 := by rw [Int.tdiv_eq_ediv_of_nonneg hp.1, w64 (by omega) (by omega)]
    refine Ev.step (fun _ => millhandref13_May.l0.eq_2 ..) (ev_pos (by omega) (ev_pos (by omega) ?_))
    rw [rd_at L j hj, e1, List.drop_eq_getElem_cons hj, List.all_cons]
    refine ev_pos (by omega) (ev_pos (by omega) (ev_pos (u64_rng _).1 ?_))
    have hs := shr_bit L[j] (rd b (L[j] / 8)) hp.1 (by omega) hv.1 hv.2
    by_cases hz : Go.bits .and .u8 (rd b (L[j] / 8)) (bitP L[j]) = 0
    · refine ev_pos (hs.mpr hz) (ev_some ?_)
      unfold isS
      rw [hz]
      rfl
    · refine ev_neg (fun h => hz (hs.mp h)) ?_
      rw [w64 (i := (j : Int) + 1) (by omega) (by omega)]
      refine ev_eq (ref13_May_l0 b L hb hn hL hl d (j + 1) (by omega)) ?_
      have : isS b (L[j] / 8) (bitP L[j]) = true := bne_iff_ne.mpr hz
      rw [this, Bool.true_and]
theorem places_range (s : ByteArray) (n : Nat) (hn : 1 ≤ n) : ∀ p ∈ placesS s n, 0 ≤ p ∧ p < 8 * n := by
  intro p hp
  simp only [placesS, List.mem_cons, List.not_mem_nil, or_false] at hp
  rcases hp with rfl | rfl | rfl | rfl <;> exact pl_range s n _ hn
theorem has_places (s : ByteArray) (b : List Int) : (placesS s b.length).all (fun p => isS b (p / 8) (bitP p)) = hasBits s b 4 := by
  show (isS b (atS s b.length 0) (bitS s b.length 0) && (isS b (atS s b.length 1) (bitS s b.length 1) && (isS b (atS s b.length 2) (bitS s b.length 2) && (isS b (atS s b.length 3) (bitS s b.length 3) && true)))) = ((((true && isS b (atS s b.length 0) (bitS s b.length 0)) && isS b (atS s b.length 1) (bitS s b.length 1)) && isS b (atS s b.length 2) (bitS s b.length 2)) && isS b (atS s b.length 3) (bitS s b.length 3))
  simp only [Bool.true_and, Bool.and_true, Bool.and_assoc]
theorem ref13_May_ev (b : List Int) (s : ByteArray) (hb : ∀ x ∈ b, 0 ≤ x ∧ x ≤ 255) (hs : s.size < 9223372036854775807) : Ev (fun k => millhandref13_May.f k b s) (mayS b s) := by
  unfold millhandref13_May.f mayS
  simp only [ref13_Check_eq, ref13_keyed_eq, Option.bind_some]
  by_cases h : checkS b = 0
  · have hl : 8 ≤ b.length ∧ b.length ≤ 1024 := by
      unfold checkS at h
      repeat' split at h
      all_goals omega
    rw [if_pos h]
    refine ev_pos h (Ev.step (fun _ => millhandref13_May.j0.eq_2 ..) ?_)
    by_cases hk : keyedS s = true
    · rw [if_pos hk]
      refine ev_neg (by rw [hk]; decide) (Ev.step (fun _ => millhandref13_May.j1.eq_2 ..) (ev_pos h ?_))
      rw [w64 (by omega) (by omega)]
      refine Ev.bind (ref13_Bits_ev s hs b.length (by omega) (by omega)) ?_
      refine ev_eq (ref13_May_l0 b (placesS s b.length) hb (by omega) (places_range s b.length (by omega)) (by simp [placesS]) 4 0 rfl) ?_
      rw [List.drop_zero, has_places]
    · rw [if_neg hk]
      exact ev_pos (by rw [Bool.eq_false_iff.mpr hk]; rfl) (Ev.step (fun _ => millhandref13_May.j1.eq_2 ..) (ev_neg (by decide) (ev_some rfl)))
  · rw [if_neg h]
    exact ev_neg h (Ev.step (fun _ => millhandref13_May.j0.eq_2 ..) (ev_neg (by decide) (Ev.step (fun _ => millhandref13_May.j1.eq_2 ..) (ev_neg h (ev_some rfl)))))
def putP (b : List Int) (p : Int) : List Int := putS b (p / 8) (bitP p)
theorem ref13_Make_l2 (l : List ByteArray) (hl : l.length < 9223372036854775807) (i : Nat) (hi : i < l.length) (L : List Int) (n : Nat) (hn : n ≤ 100000) (hL : ∀ p ∈ L, 0 ≤ p ∧ p < 8 * (n : Int)) (hl2 : L.length < 1000) (r : List Int × Int) : ∀ (d j : Nat) (b : List Int), b.length = n → j + d = L.length →
    Ev (fun k => millhandref13_Make.l1 k l ((L.drop j).foldl putP b) ((i + 1 : Nat) : Int)) r → Ev (fun k => millhandref13_Make.l2 k l b (i : Int) L (j : Int)) r
  | 0, j, b, hb, h, k => by
    rw [List.drop_of_length_le (by omega)] at k
    refine Ev.step (fun _ => millhandref13_Make.l2.eq_2 ..) (ev_neg (by omega) ?_)
    rw [w64 (by omega) (by omega)]
    exact k
  | d + 1, j, b, hb, h, k => by
    have hj : j < L.length := by omega
    have hp := hL _ (List.getElem_mem hj)
    have e1 : wrap64 (Int.tdiv L[j] 8) = L[j] / 8 := by rw [Int.tdiv_eq_ediv_of_nonneg hp.1, w64 (by omega) (by omega)]
    refine Ev.step (fun _ => millhandref13_Make.l2.eq_2 ..) (ev_pos (by omega) (ev_pos (by omega) ?_))
    rw [rd_at L j hj, e1, shl_bit _ hp.1 (by omega)]
    refine ev_pos (u64_rng _).1 (ev_pos (by omega) (ev_pos (by omega) ?_))
    rw [w64 (i := (j : Int) + 1) (by omega) (by omega)]
    refine ref13_Make_l2 l hl i hi L n hn hL hl2 r d (j + 1) (putP b L[j]) (by unfold putP; rw [putS_length, hb]) (by omega) ?_
    rwa [List.drop_eq_getElem_cons hj, List.foldl_cons] at k
theorem ref13_Make_l1 (l : List ByteArray) (hk : ∀ s ∈ l, s.size < 9223372036854775807) (hl : l.length < 9223372036854775807) (n : Nat) (hn : 8 ≤ n) (hn2 : n ≤ 1024) : ∀ (d i : Nat) (b : List Int), b.length = n → i + d = l.length →
    Ev (fun k => millhandref13_Make.l1 k l b (i : Int)) ((l.drop i).foldl (fun b s => setBits s n 4 b) b, 0)
  | 0, i, b, hb, h => by
    rw [List.drop_of_length_le (by omega)]
    exact Ev.step (fun _ => millhandref13_Make.l1.eq_2 ..) (ev_neg (by omega) (ev_some rfl))
  | d + 1, i, b, hb, h => by
    have hi : i < l.length := by omega
    refine Ev.step (fun _ => millhandref13_Make.l1.eq_2 ..) (ev_pos (by omega) (ev_pos (by omega) ?_))
    rw [rd_key l i hi, hb, w64 (by omega) (by omega), List.drop_eq_getElem_cons hi, List.foldl_cons]
    refine Ev.bind (ref13_Bits_ev l[i] (hk _ (List.getElem_mem hi)) n (by omega) (by omega)) ?_
    refine ref13_Make_l2 l hl i hi (placesS l[i] n) n (by omega) (places_range _ n (by omega)) (by simp [placesS]) _ 4 0 b hb rfl ?_
    exact ref13_Make_l1 l hk hl n hn hn2 d (i + 1) (setBits l[i] n 4 b) (by rw [setBits_length, hb]) (by omega)
theorem ref13_Make_l0 (l : List ByteArray) (hk : ∀ s ∈ l, s.size < 9223372036854775807) (hl : ¬ 1024 < l.length) : ∀ (d i : Nat), i + d = l.length → (l.take i).all keyedS = true →
    Ev (fun k => millhandref13_Make.l0 k l (i : Int)) (makeS l)
  | 0, i, h, ha => by
    rw [List.take_of_length_le (by omega)] at ha
    have hm : mx 8 (l.length : Int) = ((manyS l : Nat) : Int) := by unfold mx manyS; split <;> omega
    have hmr := many_range l hl
    unfold makeS
    rw [if_neg hl, if_pos ha]
    refine Ev.step (fun _ => millhandref13_Make.l0.eq_2 ..) (ev_neg (by omega) ?_)
    rw [hm, Int.toNat_natCast]
    refine ev_pos (by omega) (ev_pos (by omega) ?_)
    exact ref13_Make_l1 l hk (by omega) (manyS l) (by omega) (by omega) l.length 0 (List.replicate (manyS l) 0) (by simp) (by omega)
  | d + 1, i, h, ha => by
    have hi : i < l.length := by omega
    refine Ev.step (fun _ => millhandref13_Make.l0.eq_2 ..) (ev_pos (by omega) (ev_pos (by omega) ?_))
    rw [rd_key l i hi, ref13_keyed_eq]
    simp only [Option.bind_some]
    by_cases hy : keyedS l[i] = true
    · refine ev_pos hy ?_
      rw [w64 (by omega) (by omega)]
      exact ref13_Make_l0 l hk hl d (i + 1) (by omega) (by rw [List.take_succ_eq_append_getElem hi, List.all_append, ha]; simp [hy])
    · refine ev_neg hy (ev_some ?_)
      unfold makeS
      rw [if_neg hl, if_neg (fun hh => hy (List.all_eq_true.mp hh _ (List.getElem_mem hi)))]
theorem ref13_Make_ev (l : List ByteArray) (hk : ∀ s ∈ l, s.size < 9223372036854775807) : Ev (fun k => millhandref13_Make.f k l) (makeS l) := by
  unfold millhandref13_Make.f
  by_cases hl : 1024 < l.length
  · refine ev_pos (by omega) (ev_some ?_)
    unfold makeS
    rw [if_pos hl]
  · exact ev_neg (by omega) (ref13_Make_l0 l hk hl l.length 0 (by omega) (by simp))
theorem ref01_SameTexts_l0 (l : List ByteArray) (hl : l.length < 9223372036854775807) : ∀ (d i : Nat), i + d = l.length → Ev (fun k => millhandref01_SameTexts.l0 k l l (i : Int)) true
  | 0, i, h => Ev.step (fun _ => millhandref01_SameTexts.l0.eq_2 ..) (ev_neg (by omega) (Ev.now _))
  | d + 1, i, h => by
    refine Ev.step (fun _ => millhandref01_SameTexts.l0.eq_2 ..) (ev_pos (by omega) (ev_pos (by omega) (ev_pos (by omega) (ev_pos rfl ?_))))
    rw [w64 (by omega) (by omega)]
    exact ref01_SameTexts_l0 l hl d (i + 1) (by omega)
theorem ref01_SameTexts_ev (l : List ByteArray) (hl : l.length < 9223372036854775807) : Ev (fun k => millhandref01_SameTexts.f k l l) true := by
  unfold millhandref01_SameTexts.f
  exact ev_pos rfl (ref01_SameTexts_l0 l hl l.length 0 (by omega))
theorem SieveMakes_ev (l : List ByteArray) (b : List Int) (s : ByteArray) (hl : l.length * 16 ≤ 140737488351232) (hk : ∀ s ∈ l, s.size ≤ 140737488351232) (hb : ∀ x ∈ b, 0 ≤ x ∧ x ≤ 255) (hbl : b.length ≤ 140737488351232) (hs : s.size ≤ 140737488351232) : Ev (fun k => millhandlaw13_SieveMakes.f k l b s) true := by
  have hT : Ev (fun k => millhandlaw13_SieveMakes.j0 k l b s true) true := Ev.step (fun _ => millhandlaw13_SieveMakes.j0.eq_2 ..) (ev_pos rfl (Ev.now _))
  unfold millhandlaw13_SieveMakes.f
  obtain ⟨g, hg⟩ := ref13_Heavy_ev l (by omega)
  refine Ev.bind hg ?_
  cases g with
  | true => exact ev_pos rfl hT
  | false =>
    refine ev_neg (by simp) ?_
    by_cases h1 : (b.length : Int) > 10000
    · exact ev_pos h1 hT
    · refine ev_neg h1 ?_
      by_cases h2 : (s.size : Int) > 10000
      · rw [decide_eq_true h2]; exact hT
      · rw [decide_eq_false h2]
        refine Ev.step (fun _ => millhandlaw13_SieveMakes.j0.eq_2 ..) (ev_neg (by simp) ?_)
        unfold sieve_Make.f sieve_May.f
        simp only [List.nil_append, Option.bind_some, sieve_Check_eq, ref13_Check_eq]
        refine ev_pos (by simp; omega) (ev_pos (by simp; omega) ?_)
        refine Ev.bind (ref13_Make_ev l (fun s hs => by have := hk s hs; omega)) (Ev.bind (ref13_May_ev b s hb (by omega)) ?_)
        exact ev_pos rfl (ev_pos rfl (ev_pos (by simp) (ev_pos rfl (ev_pos trivial (Ev.bind (ref01_SameTexts_ev l (by omega)) (ev_pos rfl (ev_some (by simp))))))))
theorem SieveMakes_walk (w : World) (A0 : Option Addr) (c0 : Nat) (l0 : List ByteArray) (r0 : Kd.C Kd.string w A0 l0.length l0) (q0 : l0.length ≤ c0) (g0_ : (l0.length * 16 ≤ 140737488351232 ∧ l0.length ≤ 9223372036854775807 ∧ ∀ y0 ∈ l0, y0.size ≤ 140737488351232)) (A1 : Option Addr) (c1 : Nat) (l1 : List Int) (r1 : Kd.C (Kd.int .u8) w A1 l1.length l1) (q1 : l1.length ≤ c1) (g1_ : (l1.length * 1 ≤ 140737488351232 ∧ l1.length ≤ 9223372036854775807 ∧ ∀ y0 ∈ l1, (Lit.int .u8 y0).wf = true)) (a2 : ByteArray) (g2_ : a2.size ≤ 140737488351232) :
    Calls Try.prog 4 #[.slice A0 l0.length c0, .slice A1 l1.length c1, .string a2] w fun e w' => e = .returned (.bool true) ∧ Below w.heap.size w w' := by
  obtain ⟨k, h⟩ := (SieveMakes_ev l0 l1 a2 g0_.1 g0_.2.2 (fun x hx => wfu8.mp (g1_.2.2 x hx)) (by omega) g2_).rounds
  exact millhandlaw13_SieveMakes.calls k A0 c0 l0 A1 c1 l1 a2 true w r0 q0 r1 q1 h
end Go.Proofs.Ytmnkdagfgfcnjaa.R

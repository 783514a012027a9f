/- What the Go functions of CodeNumbers come to, in plain words. -/
import Derived.Test.YtfkhnjjkkkhigaaQx3
import Derived.Test.YtfkhnjjkkkhigaaPlain
import Derived.Test.YtfkhnjjkkkhigaaQOp
namespace Go.Proofs.Ytfkhnjjkkkhigaa.Q
open Go.RowKit Go.Proofs.YtfkhnjjkkkhigaaW.PrintWords Go.Proofs.Ytfkhnjjkkkhigaa.Plain Go.Proofs.YtfkhnjjkkkhigaaW.PrintMore
set_option linter.unusedVariables false

theorem code_Small_l0 : ∀ (d n : Nat) (acc : List Int), n < 128 ^ (d + 1) → acc.length + d < 140737488355300 → Ev (fun k => code_Small.l0 k (n : Int) acc) (acc ++ smallN n)
  | d, n, acc, h, hl => by
    refine Ev.step (fun _ => code_Small.l0.eq_2 ..) ?_
    by_cases h1 : n < 128
    · refine ev_neg (by omega) (ev_pos (by omega) (ev_some ?_))
      rw [smallN_lt h1]
      congr 2
      omega
    · refine ev_pos (by omega) (ev_pos (by omega) ?_)
      cases d with
      | zero => omega
      | succ d =>
        have hd : n / 128 < 128 ^ (d + 1) := by rw [Nat.div_lt_iff_lt_mul (by decide)]; rw [Nat.pow_succ] at h; exact h
        rw [smallN_ge h1, or128 (by omega) (by omega)]
        refine ev_eq (code_Small_l0 d (n / 128) _ hd (by simp; omega)) ?_
        rw [List.append_assoc, List.singleton_append]
        congr 2
        omega
theorem code_Small_ev {n : Int} (h0 : 0 ≤ n) (h : n < 18446744073709551616) : Ev (fun k => code_Small.f k n) (smallN n.toNat) := by
  obtain ⟨m, rfl⟩ := Int.eq_ofNat_of_zero_le h0
  unfold code_Small.f
  exact code_Small_l0 9 m [] (by omega) (by simp)

theorem ref01_Small_l0 : ∀ (d n : Nat) (acc : List Int), n < 128 ^ (d + 1) → n < 18446744073709551616 → acc.length + d < 140737488355300 → Ev (fun k => millhandref01_Small.l0 k (n : Int) acc) (acc ++ smallN n)
  | d, n, acc, h, hn, hl => by
    refine Ev.step (fun _ => millhandref01_Small.l0.eq_2 ..) ?_
    by_cases h1 : n < 128
    · refine ev_neg (by omega) (ev_pos (by omega) (ev_some ?_))
      rw [smallN_lt h1]
      congr 2
      omega
    · refine ev_pos (by omega) (ev_pos (by omega) ?_)
      cases d with
      | zero => omega
      | succ d =>
        have hd : n / 128 < 128 ^ (d + 1) := by rw [Nat.div_lt_iff_lt_mul (by decide)]; rw [Nat.pow_succ] at h; exact h
        have e1 : IntKind.u64.wrap (Int.tdiv (n : Int) 128) = ((n / 128 : Nat) : Int) := by
          rw [Int.tdiv_eq_ediv_of_nonneg (by omega), u64w]
          omega
        rw [smallN_ge h1, e1, Int.tmod_eq_emod_of_nonneg (by omega)]
        refine ev_eq (ref01_Small_l0 d (n / 128) _ hd (by omega) (by simp; omega)) ?_
        rw [List.append_assoc, List.singleton_append]
        congr 2
        omega
theorem ref01_Small_ev {n : Int} (h0 : 0 ≤ n) (h : n < 18446744073709551616) : Ev (fun k => millhandref01_Small.f k n) (smallN n.toNat) := by
  obtain ⟨m, rfl⟩ := Int.eq_ofNat_of_zero_le h0
  unfold millhandref01_Small.f
  exact ref01_Small_l0 9 m [] (by omega) (by omega) (by simp)

theorem code_Text_ev {s : ByteArray} (h : s.size ≤ 140737488351232) : Ev (fun k => code_Text.f k s) (smallN s.size ++ bytesOf s) := by
  unfold code_Text.f
  rw [u64w_in (by omega) (by omega)]
  refine Ev.bind (code_Small_ev (by omega) (by omega)) ?_
  have := smallN_len10 (n := s.size) (by omega)
  exact ev_pos (by rw [Int.toNat_natCast]; omega) (Ev.now _)

theorem ref01_Text_ev {s : ByteArray} (h : s.size ≤ 140737488351232) : Ev (fun k => millhandref01_Text.f k s) (smallN s.size ++ bytesOf s) := by
  unfold millhandref01_Text.f
  rw [u64w_in (by omega) (by omega)]
  refine Ev.bind (ref01_Small_ev (by omega) (by omega)) ?_
  have := smallN_len10 (n := s.size) (by omega)
  exact ev_pos (by rw [Int.toNat_natCast]; omega) (Ev.now _)

theorem or_shift (a v i : Nat) (hi : i ≤ 9) (ha : a < 128 ^ i) (hv : v < 128) (h9 : i = 9 → v ≤ 1) : Go.bits .or .u64 (a : Int) (shl .u64 (IntKind.u64.wrap (v : Int)) (wrap64 (7 * (i : Int)))) = ((a + 128 ^ i * v : Nat) : Int) := by
  have hp : (2 : Nat) ^ (7 * i) = 128 ^ i := by rw [Nat.pow_mul]
  have hb : 128 ^ i * v < 18446744073709551616 := by
    by_cases h : i = 9
    · subst h
      have := h9 rfl
      have e : (128 : Nat) ^ 9 = 9223372036854775808 := by decide
      rw [e]; omega
    · have h1 : (128 : Nat) ^ i ≤ 128 ^ 8 := Nat.pow_le_pow_right (by decide) (by omega)
      have e : (128 : Nat) ^ 8 = 72057594037927936 := by decide
      rw [e] at h1
      have := Nat.mul_le_mul h1 (Nat.le_of_lt_succ hv)
      omega
  have ha2 : a < 18446744073709551616 := by
    have h1 : (128 : Nat) ^ i ≤ 128 ^ 9 := Nat.pow_le_pow_right (by decide) hi
    have e : (128 : Nat) ^ 9 = 9223372036854775808 := by decide
    omega
  have hs : shl .u64 (IntKind.u64.wrap (v : Int)) (wrap64 (7 * (i : Int))) = ((128 ^ i * v : Nat) : Int) := by
    unfold shl
    rw [w64 (by omega) (by omega)]
    have e1 : min (7 * (i : Int)).toNat IntKind.u64.bits = 7 * i := by simp [IntKind.bits]; omega
    rw [e1]
    have e2 : (v : Int) * 2 ^ (7 * i) = ((128 ^ i * v : Nat) : Int) := by
      rw [← hp]
      push_cast
      exact Int.mul_comm _ _
    rw [u64w_in (i := (v : Int)) (by omega) (by omega), e2, u64w_in (by omega) (by omega)]
  rw [hs, (bits_nat .u64 64 (by decide) (fun n h0 h1 => u64w_in h0 (by omega)) a (128 ^ i * v) (by omega) (by omega)).2]
  congr 1
  rw [Nat.or_comm, ← hp, ← Nat.two_pow_add_eq_or_of_lt (by rw [hp]; exact ha), Nat.add_comm]
theorem rd_nat (l : List Int) (i : Nat) (h : i < l.length) : rd l (i : Int) = l[i] := by
  simp [rd, List.getD_eq_getElem?_getD, List.getElem?_eq_getElem h]
def readFrom (acc i : Nat) (l : List Int) : Int × Int × Int := match rd1 i (l.drop i) with | some p => (((acc + 128 ^ i * p.1 : Nat) : Int), ((i + p.2 : Nat) : Int), 0) | none => (0, 0, 8)
theorem code_Read_l0 (l : List Int) (hl : l.length < 9223372036854775807) (hb : ∀ x ∈ l, 0 ≤ x ∧ x ≤ 255) : ∀ (d i acc : Nat), i + d = l.length → i ≤ 9 → acc < 128 ^ i → Ev (fun k => code_Read.l0 k (acc : Int) l (l.length : Int) (i : Int)) (readFrom acc i l)
  | 0, i, acc, h, hi, ha => by
    refine Ev.step (fun _ => code_Read.l0.eq_2 ..) (ev_neg (by omega) (ev_some ?_))
    unfold readFrom
    rw [List.drop_of_length_le (by omega)]
    rfl
  | d + 1, i, acc, h, hi, ha => by
    have hlt : i < l.length := by omega
    have hx := hb _ (List.getElem_mem hlt)
    refine Ev.step (fun _ => code_Read.l0.eq_2 ..) (ev_pos (by omega) (ev_pos (by omega) (ev_pos (by omega) ?_)))
    rw [rd_nat l i hlt]
    have hrf : readFrom acc i l = match (if i = 9 ∧ 1 < l[i] then none else if l[i] < 128 then (if l[i] = 0 ∧ 0 < i then none else some ((l[i]).toNat, 1)) else (rd1 (i + 1) (l.drop (i + 1))).map fun p => ((l[i] - 128).toNat + 128 * p.1, p.2 + 1)) with | some p => (((acc + 128 ^ i * p.1 : Nat) : Int), ((i + p.2 : Nat) : Int), 0) | none => (0, 0, 8) := by
      unfold readFrom
      rw [List.drop_eq_getElem_cons hlt, rd1]
    by_cases h9 : i = 9 ∧ 1 < l[i]
    · rw [hrf, if_pos h9]
      exact ev_pos (by omega) (Ev.step (fun _ => code_Read.j1.eq_2 ..) (ev_pos (decide_eq_true (by omega)) (Ev.now _)))
    · have key : Ev (fun k => code_Read.j1 k (acc : Int) (i : Int) l[i] l (l.length : Int) (i : Int) false) (readFrom acc i l) := by
        refine Ev.step (fun _ => code_Read.j1.eq_2 ..) (ev_neg (by simp) (ev_pos (by rw [w64 (by omega) (by omega)]; omega) ?_))
        obtain ⟨v, hv⟩ := Int.eq_ofNat_of_zero_le hx.1
        rw [hrf, if_neg h9, and127 hx.1 (by omega)]
        by_cases h128 : l[i] < 128
        · rw [if_pos h128]
          have e := or_shift acc v i hi ha (by omega) (fun h => by omega)
          have em : l[i] % 128 = (v : Int) := by omega
          rw [em, e]
          refine ev_pos h128 ?_
          by_cases h0 : l[i] = 0
          · refine ev_pos h0 ?_
            by_cases hi0 : 0 < i
            · rw [if_pos (show l[i] = 0 ∧ 0 < i from ⟨h0, hi0⟩)]
              exact ev_pos (by omega) (Ev.now _)
            · rw [if_neg (show ¬ (l[i] = 0 ∧ 0 < i) by omega)]
              refine ev_neg (by omega) (ev_some ?_)
              rw [w64 (by omega) (by omega)]
              simp only [Prod.mk.injEq, and_true]
              refine ⟨?_, by omega⟩
              rw [show (l[i]).toNat = v by omega]
          · rw [if_neg (show ¬ (l[i] = 0 ∧ 0 < i) by omega)]
            refine ev_neg h0 (ev_some ?_)
            rw [w64 (by omega) (by omega)]
            simp only [Prod.mk.injEq, and_true]
            refine ⟨?_, by omega⟩
            rw [show (l[i]).toNat = v by omega]
        · rw [if_neg h128]
          obtain ⟨u, hu⟩ : ∃ u : Nat, l[i] % 128 = (u : Int) ∧ v = u + 128 := ⟨v - 128, by omega, by omega⟩
          have e := or_shift acc u i hi ha (by omega) (fun h => by omega)
          rw [hu.1, e]
          have hi8 : i ≤ 8 := by
            by_cases h9' : i = 9
            · exfalso; exact h9 ⟨h9', by omega⟩
            · omega
          refine ev_neg h128 ?_
          rw [w64 (by omega) (by omega)]
          have hacc : acc + 128 ^ i * u < 128 ^ (i + 1) := by
            have h1 : 128 ^ i * u ≤ 128 ^ i * 127 := Nat.mul_le_mul_left _ (by omega)
            rw [Nat.pow_succ]
            omega
          refine ev_eq (code_Read_l0 l hl hb d (i + 1) (acc + 128 ^ i * u) (by omega) (by omega) hacc) ?_
          unfold readFrom
          cases hr : rd1 (i + 1) (l.drop (i + 1)) with
          | none => rfl
          | some p =>
            simp only [Option.map_some, Prod.mk.injEq, and_true]
            refine ⟨?_, by omega⟩
            rw [show (l[i] - 128).toNat = u by omega, Nat.pow_succ, Nat.mul_add, Nat.mul_assoc, Nat.add_assoc]
      by_cases h9' : i = 9
      · refine ev_pos (by omega) ?_
        rw [decide_eq_false (show ¬ l[i] > 1 from fun h => h9 ⟨h9', h⟩)]
        exact key
      · exact ev_neg (by omega) key
theorem code_Read_ev (l : List Int) (hl : l.length < 9223372036854775807) (hb : ∀ x ∈ l, 0 ≤ x ∧ x ≤ 255) : Ev (fun k => code_Read.f k l) (readS l) := by
  unfold code_Read.f
  refine ev_eq (code_Read_l0 l hl hb l.length 0 0 (by omega) (by omega) (by decide)) ?_
  unfold readFrom readS
  rw [List.drop_zero]
  cases rd1 0 l with
  | none => rfl
  | some p => simp

/-- Where a number's last byte stands, from place i on. -/
def stopAt : Nat → List Int → Nat
  | i, [] => i
  | i, x :: t => if i < 10 ∧ 128 ≤ x then stopAt (i + 1) t else i
/-- The number that some bytes make. -/
def valS : List Int → Nat
  | [] => 0
  | x :: t => (x % 128).toNat + 128 * valS t
theorem stopAt_ge : ∀ (t : List Int) (i : Nat), i ≤ stopAt i t ∧ stopAt i t ≤ i + t.length
  | [], i => by simp [stopAt]
  | x :: t, i => by
    unfold stopAt
    have := stopAt_ge t (i + 1)
    simp only [List.length_cons]
    split <;> omega
/-- Reading, by where it stops. -/
theorem rd1_stop : ∀ (t : List Int) (i : Nat), i ≤ 9 → (∀ x ∈ t, 0 ≤ x ∧ x ≤ 255) →
    rd1 i t = if h : stopAt i t - i < t.length then (if 10 ≤ stopAt i t ∨ (stopAt i t = 9 ∧ 1 < t[stopAt i t - i]) ∨ (0 < stopAt i t ∧ t[stopAt i t - i] = 0) then none else some (valS (t.take (stopAt i t - i + 1)), stopAt i t - i + 1)) else none
  | [], i, hi, hb => by simp [rd1]
  | x :: t, i, hi, hb => by
    have hx := hb x (by simp)
    have hg := stopAt_ge t (i + 1)
    rw [rd1, stopAt]
    by_cases h128 : x < 128
    · rw [if_neg (show ¬ (i < 10 ∧ 128 ≤ x) by omega), dif_pos (by simp)]
      simp only [Nat.sub_self, List.getElem_cons_zero, Nat.zero_add, List.take_succ_cons, List.take_zero]
      by_cases h9 : i = 9 ∧ 1 < x
      · rw [if_pos h9, if_pos (by omega)]
      · rw [if_neg h9, if_pos h128]
        by_cases h0 : x = 0 ∧ 0 < i
        · rw [if_pos h0, if_pos (by omega)]
        · rw [if_neg h0, if_neg (by omega)]
          simp only [valS]
          congr 2
          omega
    · rw [if_pos (show i < 10 ∧ 128 ≤ x by omega)]
      by_cases h9 : i = 9
      · rw [if_pos (by omega)]
        subst h9
        split
        · rw [if_pos (by omega)]
        · rfl
      · rw [if_neg (by omega), if_neg h128, rd1_stop t (i + 1) (by omega) (fun y hy => hb y (List.mem_cons_of_mem _ hy))]
        by_cases hlt : stopAt (i + 1) t - (i + 1) < t.length
        · have e : stopAt (i + 1) t - i = (stopAt (i + 1) t - (i + 1)) + 1 := by omega
          rw [dif_pos hlt, dif_pos (by simp only [List.length_cons]; omega)]
          simp only [e, List.getElem_cons_succ, List.take_succ_cons]
          split
          · rfl
          · simp only [Option.map_some, valS]
            congr 2
            omega
        · rw [dif_neg hlt, dif_neg (by simp only [List.length_cons]; omega)]
          rfl
theorem ref01_Read_l0 (l : List Int) (hl : l.length < 9223372036854775807) : ∀ (d i : Nat) (r : Int × Int × Int), i + d = l.length → Ev (fun k => millhandref01_Read.j1 k l ((stopAt i (l.drop i) : Nat) : Int)) r → Ev (fun k => millhandref01_Read.l0 k l (i : Int)) r
  | 0, i, r, h, hr => by
    rw [List.drop_of_length_le (by omega)] at hr
    exact Ev.step (fun _ => millhandref01_Read.l0.eq_2 ..) (ev_neg (by omega) hr)
  | d + 1, i, r, h, hr => by
    have hlt : i < l.length := by omega
    rw [List.drop_eq_getElem_cons hlt, stopAt] at hr
    refine Ev.step (fun _ => millhandref01_Read.l0.eq_2 ..) (ev_pos (by omega) ?_)
    by_cases h10 : i < 10
    · refine ev_pos (by omega) (ev_pos (by omega) ?_)
      rw [rd_nat l i hlt]
      by_cases h128 : 128 ≤ l[i]
      · rw [if_pos ⟨h10, h128⟩] at hr
        refine ev_pos (by omega) ?_
        rw [w64 (by omega) (by omega)]
        exact ref01_Read_l0 l hl d (i + 1) r (by omega) hr
      · rw [if_neg (by omega)] at hr
        exact ev_neg (by omega) hr
    · rw [if_neg (by omega)] at hr
      exact ev_neg (by omega) hr
/-- The number of bytes from place j on stays below what is left of 64 bits. -/
theorem valS_lt : ∀ (p : List Int) (e : Nat), p.length ≤ e + 1 → (∀ h : p.length = e + 1, p[e] % 128 ≤ 1) → valS p < 2 * 128 ^ e
  | [], e, _, _ => by
    have : 0 < 128 ^ e := Nat.pow_pos (by decide)
    simp only [valS]
    omega
  | x :: t, 0, h, h9 => by
    have h1 := h9 (by simp only [List.length_cons] at h ⊢; omega)
    have ht : t = [] := List.eq_nil_of_length_eq_zero (by simp only [List.length_cons] at h; omega)
    subst ht
    simp only [List.getElem_cons_zero] at h1
    simp only [valS]
    omega
  | x :: t, e + 1, h, h9 => by
    have ih := valS_lt t e (by simp only [List.length_cons] at h; omega) (fun he => by
      have := h9 (by simp only [List.length_cons]; omega)
      simpa only [List.getElem_cons_succ] using this)
    simp only [valS]
    rw [Nat.pow_succ]
    omega
theorem ref01_Read_l1 (l : List Int) (s : Nat) (hs : s < l.length) (hs9 : s ≤ 9) (h9 : s = 9 → l[s] % 128 ≤ 1) (hb : ∀ x ∈ l, 0 ≤ x ∧ x ≤ 255) : ∀ (j : Nat), j ≤ s + 1 → Ev (fun k => millhandref01_Read.l1 k l (s : Int) ((valS ((l.take (s + 1)).drop j) : Nat) : Int) ((j : Int) - 1)) (((valS (l.take (s + 1)) : Nat) : Int), ((s + 1 : Nat) : Int), 0)
  | 0, hj => by
    refine Ev.step (fun _ => millhandref01_Read.l1.eq_2 ..) (ev_neg (by omega) (ev_some ?_))
    rw [w64 (by omega) (by omega)]
    simp
  | j + 1, hj => by
    have hlt : j < l.length := by omega
    have hlt2 : j < (l.take (s + 1)).length := by rw [List.length_take]; omega
    have hx := hb _ (List.getElem_mem hlt)
    refine Ev.step (fun _ => millhandref01_Read.l1.eq_2 ..) (ev_pos (by omega) (ev_pos (by omega) (ev_pos (by omega) ?_)))
    have hv : valS ((l.take (s + 1)).drop j) < 2 * 128 ^ (9 - j) := valS_lt _ _ (by rw [List.length_drop, List.length_take]; omega) (fun he => by
      rw [List.length_drop, List.length_take] at he
      have hs9' : s = 9 := by omega
      have : ((l.take (s + 1)).drop j)[9 - j]'(by rw [List.length_drop, List.length_take]; omega) = l[s] := by
        rw [List.getElem_drop, List.getElem_take]
        congr 1
        omega
      rw [this]
      exact h9 hs9')
    have hb2 : 2 * 128 ^ (9 - j) ≤ 18446744073709551616 := by
      have h1 : (128 : Nat) ^ (9 - j) ≤ 128 ^ 9 := Nat.pow_le_pow_right (by decide) (by omega)
      have e : (128 : Nat) ^ 9 = 9223372036854775808 := by decide
      omega
    have e1 : valS ((l.take (s + 1)).drop j) = (l[j] % 128).toNat + 128 * valS ((l.take (s + 1)).drop (j + 1)) := by
      rw [List.drop_eq_getElem_cons hlt2, valS, List.getElem_take]
    have e2 : ((j + 1 : Nat) : Int) - 1 = (j : Int) := by omega
    have a1 : IntKind.u64.wrap (((valS ((l.take (s + 1)).drop (j + 1)) : Nat) : Int) * 128) = ((valS ((l.take (s + 1)).drop (j + 1)) : Nat) : Int) * 128 := u64w_in (by omega) (by omega)
    have a2 : IntKind.u64.wrap (l[j] % 128) = l[j] % 128 := u64w_in (by omega) (by omega)
    rw [e2, rd_nat l j hlt, Int.tmod_eq_emod_of_nonneg hx.1, a1, a2, u64w_in (by omega) (by omega), w64 (by omega) (by omega)]
    have ih := ref01_Read_l1 l s hs hs9 h9 hb j (by omega)
    rw [e1] at ih
    have e3 : ((valS ((l.take (s + 1)).drop (j + 1)) : Nat) : Int) * 128 + l[j] % 128 = (((l[j] % 128).toNat + 128 * valS ((l.take (s + 1)).drop (j + 1)) : Nat) : Int) := by omega
    rw [e3]
    exact ih
theorem ref01_Read_ev (l : List Int) (hl : l.length < 9223372036854775807) (hb : ∀ x ∈ l, 0 ≤ x ∧ x ≤ 255) : Ev (fun k => millhandref01_Read.f k l) (readS l) := by
  unfold millhandref01_Read.f
  refine ref01_Read_l0 l hl l.length 0 _ (by omega) ?_
  rw [List.drop_zero]
  have hg := stopAt_ge l 0
  have hrd := rd1_stop l 0 (by omega) hb
  simp only [Nat.sub_zero] at hrd
  have bad : ∀ (r : Int × Int × Int), r = (0, 0, 8) → Ev (fun k => millhandref01_Read.j2 k l ((stopAt 0 l : Nat) : Int) true) r := fun r hr => Ev.step (fun _ => millhandref01_Read.j2.eq_2 ..) (ev_pos rfl (ev_some hr.symm))
  refine Ev.step (fun _ => millhandref01_Read.j1.eq_2 ..) ?_
  by_cases h1 : stopAt 0 l < l.length
  · rw [dif_pos h1] at hrd
    refine ev_neg (by omega) ?_
    by_cases h10 : 10 ≤ stopAt 0 l
    · rw [if_pos (by omega)] at hrd
      refine ev_pos (by omega) (bad _ ?_)
      unfold readS; rw [hrd]
    · refine ev_neg (by omega) ?_
      have hr := rd_nat l (stopAt 0 l) h1
      have good : ¬ (10 ≤ stopAt 0 l ∨ (stopAt 0 l = 9 ∧ 1 < l[stopAt 0 l]) ∨ (0 < stopAt 0 l ∧ l[stopAt 0 l] = 0)) → Ev (fun k => millhandref01_Read.j2 k l ((stopAt 0 l : Nat) : Int) false) (readS l) := by
        intro hn
        rw [if_neg hn] at hrd
        refine Ev.step (fun _ => millhandref01_Read.j2.eq_2 ..) (ev_neg (by simp) ?_)
        have hx := hb _ (List.getElem_mem h1)
        have := ref01_Read_l1 l (stopAt 0 l) h1 (by omega) (fun h => by
          have : ¬ 1 < l[stopAt 0 l] := fun h' => hn (.inr (.inl ⟨h, h'⟩))
          omega) hb (stopAt 0 l + 1) (Nat.le_refl _)
        rw [List.drop_of_length_le (by rw [List.length_take]; omega)] at this
        have e : ((stopAt 0 l + 1 : Nat) : Int) - 1 = ((stopAt 0 l : Nat) : Int) := by omega
        rw [e] at this
        refine ev_eq this ?_
        unfold readS; rw [hrd]
      have tail : (¬ (stopAt 0 l = 9 ∧ 1 < l[stopAt 0 l])) → Ev (fun n => if ((stopAt 0 l : Nat) : Int) > 0 then (if 0 ≤ ((stopAt 0 l : Nat) : Int) then (if ((stopAt 0 l : Nat) : Int) < (l.length : Int) then millhandref01_Read.j2 n l ((stopAt 0 l : Nat) : Int) ((rd l ((stopAt 0 l : Nat) : Int)) == 0) else none) else none) else millhandref01_Read.j2 n l ((stopAt 0 l : Nat) : Int) false) (readS l) := by
        intro h9
        by_cases h0 : 0 < stopAt 0 l
        · refine ev_pos (by omega) (ev_pos (by omega) (ev_pos (by omega) ?_))
          rw [hr]
          by_cases hz : l[stopAt 0 l] = 0
          · rw [beq_iff_eq.2 hz]
            rw [if_pos (by omega)] at hrd
            refine bad _ ?_
            unfold readS; rw [hrd]
          · rw [beq_eq_false_iff_ne.2 hz]
            exact good (by omega)
        · exact ev_neg (by omega) (good (by omega))
      by_cases h9 : stopAt 0 l = 9
      · have hr9 : rd l 9 = l[stopAt 0 l] := by rw [← hr, h9]; rfl
        refine ev_pos (by omega) (ev_pos (by omega) ?_)
        rw [hr9]
        by_cases hb1 : 1 < l[stopAt 0 l]
        · rw [if_pos (by omega)] at hrd
          refine ev_pos hb1 (bad _ ?_)
          unfold readS; rw [hrd]
        · exact ev_neg hb1 (tail (by omega))
      · exact ev_neg (by omega) (tail (by omega))
  · rw [dif_neg h1] at hrd
    refine ev_pos (by omega) (bad _ ?_)
    unfold readS; rw [hrd]

/-- What cutting a text off tells: it, what stands behind it, the error. -/
def cutS (l : List Int) : ByteArray × List Int × Int := match rd1 0 l with
  | some p => if p.2 + p.1 ≤ l.length then (strOfNums ((l.take (p.2 + p.1)).drop p.2), l.drop (p.2 + p.1), 0) else (⟨#[]⟩, [], 8)
  | none => (⟨#[]⟩, [], 8)
theorem code_Cut_ev (l : List Int) (hl : l.length ≤ 140737488351232) (hb : ∀ x ∈ l, 0 ≤ x ∧ x ≤ 255) : Ev (fun k => code_Cut.f k l) (cutS l) := by
  unfold code_Cut.f
  refine Ev.bind (code_Read_ev l (by omega) hb) ?_
  unfold readS cutS
  cases hr : rd1 0 l with
  | none => exact ev_neg (by decide) (Ev.now _)
  | some p =>
    obtain ⟨h1, h2, h3⟩ := rd1_only0 hb hr
    have hlen := rd1_len hr
    refine ev_pos rfl ?_
    have e0 : wrap64 ((l.length : Int) - (p.2 : Int)) = (l.length : Int) - (p.2 : Int) := w64 (by omega) (by omega)
    have e1 : IntKind.u64.wrap ((l.length : Int) - (p.2 : Int)) = (l.length : Int) - (p.2 : Int) := u64w_in (by omega) (by omega)
    simp only [e0, e1]
    by_cases h : p.2 + p.1 ≤ l.length
    · rw [if_pos h]
      refine ev_neg (by omega) ?_
      have e2 : wrap64 ((p.2 : Int) + wrap64 (p.1 : Int)) = ((p.2 + p.1 : Nat) : Int) := by
        rw [w64 (i := (p.1 : Int)) (by omega) (by omega), w64 (by omega) (by omega)]
        omega
      simp only [e2]
      refine ev_pos (by omega) (ev_pos (by omega) (ev_pos (by omega) (ev_pos (by omega) ?_)))
      simp only [Int.toNat_natCast]
      refine Ev.bind (a := l.drop (p.2 + p.1)) ?_ (Ev.now _)
      unfold bytes_Clone.f
      exact ev_pos (by rw [List.length_drop]; simp; omega) (ev_some (by simp))
    · rw [if_neg h]
      exact ev_pos (by omega) (Ev.now _)
theorem ref01_Cut_ev (l : List Int) (hl : l.length ≤ 140737488351232) (hb : ∀ x ∈ l, 0 ≤ x ∧ x ≤ 255) : Ev (fun k => millhandref01_Cut.f k l) (cutS l) := by
  unfold millhandref01_Cut.f
  refine Ev.bind (ref01_Read_ev l (by omega) hb) ?_
  unfold readS cutS
  cases hr : rd1 0 l with
  | none => exact ev_neg (by decide) (Ev.now _)
  | some p =>
    obtain ⟨h1, h2, h3⟩ := rd1_only0 hb hr
    have hlen := rd1_len hr
    refine ev_pos rfl ?_
    have e0 : wrap64 ((l.length : Int) - (p.2 : Int)) = (l.length : Int) - (p.2 : Int) := w64 (by omega) (by omega)
    have e1 : IntKind.u64.wrap ((l.length : Int) - (p.2 : Int)) = (l.length : Int) - (p.2 : Int) := u64w_in (by omega) (by omega)
    simp only [e0, e1]
    by_cases h : p.2 + p.1 ≤ l.length
    · rw [if_pos h]
      refine ev_neg (by omega) ?_
      have e2 : wrap64 ((p.2 : Int) + wrap64 (p.1 : Int)) = ((p.2 + p.1 : Nat) : Int) := by
        rw [w64 (i := (p.1 : Int)) (by omega) (by omega), w64 (by omega) (by omega)]
        omega
      simp only [e2]
      refine ev_pos (by omega) (ev_pos (by omega) (ev_pos ?_ (ev_pos (by omega) (ev_pos (by omega) (ev_some ?_)))))
      · simp only [Int.toNat_natCast]
        rw [List.length_drop]; simp; omega
      · simp only [Int.toNat_natCast, List.nil_append]
    · rw [if_neg h]
      exact ev_pos (by omega) (Ev.now _)

theorem cutS_rest (l : List Int) : (cutS l).2.1.length ≤ l.length := by
  unfold cutS
  cases rd1 0 l with
  | none => simp
  | some p =>
    dsimp only
    split
    · simp
    · simp
theorem CodeNumbers_l0 (x7 : List Int) : ∀ (d i : Nat) (x15 : List Int), x15.length < 9223372036854775807 → i + d = x15.length → Ev (fun k => millhandlaw01_CodeNumbers.l0 k x7 x7 x15 (i : Int)) true
  | 0, i, x15, hl, h => Ev.step (fun _ => millhandlaw01_CodeNumbers.l0.eq_2 ..) (ev_neg (by omega) (ev_some (by simp)))
  | d + 1, i, x15, hl, h => by
    refine Ev.step (fun _ => millhandlaw01_CodeNumbers.l0.eq_2 ..) (ev_pos (by omega) (ev_pos (by omega) ?_))
    rw [w64 (by omega) (by omega)]
    exact CodeNumbers_l0 x7 d (i + 1) _ (by rw [List.length_set]; exact hl) (by rw [List.length_set]; omega)
theorem CodeNumbers_ev (n : Int) (s : ByteArray) (b : List Int) (h0 : 0 ≤ n) (h1 : n < 18446744073709551616) (hs : s.size ≤ 140737488351232) (hl : b.length ≤ 140737488351232) (hb : ∀ x ∈ b, 0 ≤ x ∧ x ≤ 255) : Ev (fun k => millhandlaw01_CodeNumbers.f k n s b) true := by
  unfold millhandlaw01_CodeNumbers.f
  by_cases c1 : (s.size : Int) > 100000
  · exact ev_pos c1 (Ev.step (fun _ => millhandlaw01_CodeNumbers.j0.eq_2 ..) (ev_pos rfl (Ev.now _)))
  · refine ev_neg c1 (Ev.step (fun _ => millhandlaw01_CodeNumbers.j0.eq_2 ..) ?_)
    by_cases c2 : (b.length : Int) > 100000
    · exact ev_pos (decide_eq_true c2) (Ev.now _)
    · refine ev_neg (by simp; omega) (ev_pos (by simp; omega) ?_)
      simp only [Option.bind_some, List.nil_append]
      refine Ev.bind (code_Read_ev b (by omega) hb) (Ev.bind (ref01_Read_ev b (by omega) hb) (Ev.bind (code_Cut_ev b (by omega) hb) (Ev.bind (ref01_Cut_ev b (by omega) hb) ?_)))
      refine Ev.bind (code_Small_ev h0 h1) (Ev.bind (ref01_Small_ev h0 h1) (ev_pos rfl ?_))
      refine Ev.bind (code_Text_ev hs) (Ev.bind (ref01_Text_ev hs) (ev_pos rfl ?_))
      refine ev_pos rfl (ev_pos rfl (ev_pos rfl (ev_pos rfl (ev_pos rfl ?_))))
      refine Ev.step (fun _ => millhandlaw01_CodeNumbers.j1.eq_2 ..) (ev_neg (by simp) ?_)
      have hr := cutS_rest b
      exact CodeNumbers_l0 b (cutS b).2.1.length 0 _ (by omega) (by omega)
theorem bytes_range {l : List Int} (h : ∀ x ∈ l, (Lit.int .u8 x).wf = true) : ∀ x ∈ l, 0 ≤ x ∧ x ≤ 255 := fun x hx => wfu8.1 (h x hx)
theorem CodeNumbers_walk (w : World) (a0 : Int) (g0_ : (Lit.int .u64 a0).wf = true) (a1 : ByteArray) (g1_ : a1.size ≤ 140737488351232) (A2 : Option Addr) (c2 : Nat) (l2 : List Int) (r2 : Kd.C (Kd.int .u8) w A2 l2.length l2) (q2 : l2.length ≤ c2) (g2_ : (l2.length * 1 ≤ 140737488351232 ∧ l2.length ≤ 9223372036854775807 ∧ ∀ y0 ∈ l2, (Lit.int .u8 y0).wf = true)) :
    Calls Try.prog 3 #[.int .u64 a0, .string a1, .slice A2 l2.length c2] w fun e w' => e = .returned (.bool true) ∧ Below w.heap.size w w' := by
  have h0 := wfu64.1 g0_
  obtain ⟨k, h⟩ := (CodeNumbers_ev a0 a1 l2 h0.1 h0.2 g1_ (by omega) (bytes_range g2_.2.2)).rounds
  exact millhandlaw01_CodeNumbers.calls k a0 a1 A2 c2 l2 true w r2 q2 h rfl
end Go.Proofs.Ytfkhnjjkkkhigaa.Q

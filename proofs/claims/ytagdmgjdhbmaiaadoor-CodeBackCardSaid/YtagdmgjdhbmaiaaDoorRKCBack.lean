/- Numbers and texts are read back, whatever stands behind. -/
import Derived.Test.YtagdmgjdhbmaiaaDoorRx10
import Derived.Test.YtagdmgjdhbmaiaaDoorRx9
import Derived.Test.YtagdmgjdhbmaiaaDoorRKCm
import Derived.Test.YtagdmgjdhbmaiaaDoorROp
namespace Go.Proofs.YtagdmgjdhbmaiaaDoor.R
open Go.RowKit Go.Proofs.YtagdmgjdhbmaiaaDoorW.PrintWords Go.Proofs.YtagdmgjdhbmaiaaDoorW.PrintLast Go.Proofs.YtagdmgjdhbmaiaaDoorW.PrintMore Go.Proofs.YtagdmgjdhbmaiaaDoor.Plain
set_option linter.unusedVariables false
set_option linter.unusedSimpArgs false

theorem code_Small_l0 : ∀ (d n : Nat) (acc : List Int), n < 128 ^ (d + 1) → acc.length + d < 140737488355300 → Ev (fun k => code_Small.l0 k (n : Int) acc) (acc ++ smallN n)
  | d, n, acc, h, hl => by
    refine Ev.step (fun _ => code_Small.l0.eq_2 ..) ?_
    by_cases h1 : n < 128
    · refine ev_neg (by omega) (ev_pos (by omega) (ev_some ?_))
      rw [smallN_lt h1]
      congr 2
      omega
    · refine ev_pos (by omega) (ev_pos (by omega) ?_)
      cases d with
      | zero => omega
      | succ d =>
        have hd : n / 128 < 128 ^ (d + 1) := by rw [Nat.div_lt_iff_lt_mul (by decide)]; rw [Nat.pow_succ] at h; exact h
        rw [smallN_ge h1, or128 (by omega) (by omega)]
        refine ev_eq (code_Small_l0 d (n / 128) _ hd (by simp; omega)) ?_
        rw [List.append_assoc, List.singleton_append]
        congr 2
        omega
theorem code_Small_ev {n : Int} (h0 : 0 ≤ n) (h : n < 18446744073709551616) : Ev (fun k => code_Small.f k n) (smallN n.toNat) := by
  obtain ⟨m, rfl⟩ := Int.eq_ofNat_of_zero_le h0
  unfold code_Small.f
  exact code_Small_l0 9 m [] (by omega) (by simp)

theorem or_shift (a v i : Nat) (hi : i ≤ 9) (ha : a < 128 ^ i) (hv : v < 128) (h9 : i = 9 → v ≤ 1) : Go.bits .or .u64 (a : Int) (shl .u64 (IntKind.u64.wrap (v : Int)) (wrap64 (7 * (i : Int)))) = ((a + 128 ^ i * v : Nat) : Int) := by
  have hp : (2 : Nat) ^ (7 * i) = 128 ^ i := by rw [Nat.pow_mul]
  have hb : 128 ^ i * v < 18446744073709551616 := by
    by_cases h : i = 9
    · subst h
      have := h9 rfl
      have e : (128 : Nat) ^ 9 = 9223372036854775808 := by decide
      rw [e]; omega
    · have h1 : (128 : Nat) ^ i ≤ 128 ^ 8 := Nat.pow_le_pow_right (by decide) (by omega)
      have e : (128 : Nat) ^ 8 = 72057594037927936 := by decide
      rw [e] at h1
      have := Nat.mul_le_mul h1 (Nat.le_of_lt_succ hv)
      omega
  have ha2 : a < 18446744073709551616 := by
    have h1 : (128 : Nat) ^ i ≤ 128 ^ 9 := Nat.pow_le_pow_right (by decide) hi
    have e : (128 : Nat) ^ 9 = 9223372036854775808 := by decide
    omega
  have hs : shl .u64 (IntKind.u64.wrap (v : Int)) (wrap64 (7 * (i : Int))) = ((128 ^ i * v : Nat) : Int) := by
    unfold shl
    rw [w64 (by omega) (by omega)]
    have e1 : min (7 * (i : Int)).toNat IntKind.u64.bits = 7 * i := by simp [IntKind.bits]; omega
    rw [e1]
    have e2 : (v : Int) * 2 ^ (7 * i) = ((128 ^ i * v : Nat) : Int) := by
      rw [← hp]
      push_cast
      exact Int.mul_comm _ _
    rw [u64w_in (i := (v : Int)) (by omega) (by omega), e2, u64w_in (by omega) (by omega)]
  rw [hs, (bits_nat .u64 64 (by decide) (fun n h0 h1 => u64w_in h0 (by omega)) a (128 ^ i * v) (by omega) (by omega)).2]
  congr 1
  rw [Nat.or_comm, ← hp, ← Nat.two_pow_add_eq_or_of_lt (by rw [hp]; exact ha), Nat.add_comm]
theorem rd_nat (l : List Int) (i : Nat) (h : i < l.length) : rd l (i : Int) = l[i] := by
  simp [rd, List.getD_eq_getElem?_getD, List.getElem?_eq_getElem h]
def readFrom (acc i : Nat) (l : List Int) : Int × Int × Int := match rd1 i (l.drop i) with | some p => (((acc + 128 ^ i * p.1 : Nat) : Int), ((i + p.2 : Nat) : Int), 0) | none => (0, 0, 8)
theorem code_Read_l0 (l : List Int) (hl : l.length < 9223372036854775807) (hb : ∀ x ∈ l, 0 ≤ x ∧ x ≤ 255) : ∀ (d i acc : Nat), i + d = l.length → i ≤ 9 → acc < 128 ^ i → Ev (fun k => code_Read.l0 k (acc : Int) l (l.length : Int) (i : Int)) (readFrom acc i l)
  | 0, i, acc, h, hi, ha => by
    refine Ev.step (fun _ => code_Read.l0.eq_2 ..) (ev_neg (by omega) (ev_some ?_))
    unfold readFrom
    rw [List.drop_of_length_le (by omega)]
    rfl
  | d + 1, i, acc, h, hi, ha => by
    have hlt : i < l.length := by omega
    have hx := hb _ (List.getElem_mem hlt)
    refine Ev.step (fun _ => code_Read.l0.eq_2 ..) (ev_pos (by omega) (ev_pos (by omega) (ev_pos (by omega) ?_)))
    rw [rd_nat l i hlt]
    have hrf : readFrom acc i l = match (if i = 9 ∧ 1 < l[i] then none else if l[i] < 128 then (if l[i] = 0 ∧ 0 < i then none else some ((l[i]).toNat, 1)) else (rd1 (i + 1) (l.drop (i + 1))).map fun p => ((l[i] - 128).toNat + 128 * p.1, p.2 + 1)) with | some p => (((acc + 128 ^ i * p.1 : Nat) : Int), ((i + p.2 : Nat) : Int), 0) | none => (0, 0, 8) := by
      unfold readFrom
      rw [List.drop_eq_getElem_cons hlt, rd1]
    by_cases h9 : i = 9 ∧ 1 < l[i]
    · rw [hrf, if_pos h9]
      exact ev_pos (by omega) (Ev.step (fun _ => code_Read.j1.eq_2 ..) (ev_pos (decide_eq_true (by omega)) (Ev.now _)))
    · have key : Ev (fun k => code_Read.j1 k (acc : Int) (i : Int) l[i] l (l.length : Int) (i : Int) false) (readFrom acc i l) := by
        refine Ev.step (fun _ => code_Read.j1.eq_2 ..) (ev_neg (by simp) (ev_pos (by rw [w64 (by omega) (by omega)]; omega) ?_))
        obtain ⟨v, hv⟩ := Int.eq_ofNat_of_zero_le hx.1
        rw [hrf, if_neg h9, and127 hx.1 (by omega)]
        by_cases h128 : l[i] < 128
        · rw [if_pos h128]
          have e := or_shift acc v i hi ha (by omega) (fun h => by omega)
          have em : l[i] % 128 = (v : Int) := by omega
          rw [em, e]
          refine ev_pos h128 ?_
          by_cases h0 : l[i] = 0
          · refine ev_pos h0 ?_
            by_cases hi0 : 0 < i
            · rw [if_pos (show l[i] = 0 ∧ 0 < i from ⟨h0, hi0⟩)]
              exact ev_pos (by omega) (Ev.now _)
            · rw [if_neg (show ¬ (l[i] = 0 ∧ 0 < i) by omega)]
              refine ev_neg (by omega) (ev_some ?_)
              rw [w64 (by omega) (by omega)]
              simp only [Prod.mk.injEq, and_true]
              refine ⟨?_, by omega⟩
              rw [show (l[i]).toNat = v by omega]
          · rw [if_neg (show ¬ (l[i] = 0 ∧ 0 < i) by omega)]
            refine ev_neg h0 (ev_some ?_)
            rw [w64 (by omega) (by omega)]
            simp only [Prod.mk.injEq, and_true]
            refine ⟨?_, by omega⟩
            rw [show (l[i]).toNat = v by omega]
        · rw [if_neg h128]
          obtain ⟨u, hu⟩ : ∃ u : Nat, l[i] % 128 = (u : Int) ∧ v = u + 128 := ⟨v - 128, by omega, by omega⟩
          have e := or_shift acc u i hi ha (by omega) (fun h => by omega)
          rw [hu.1, e]
          have hi8 : i ≤ 8 := by
            by_cases h9' : i = 9
            · exfalso; exact h9 ⟨h9', by omega⟩
            · omega
          refine ev_neg h128 ?_
          rw [w64 (by omega) (by omega)]
          have hacc : acc + 128 ^ i * u < 128 ^ (i + 1) := by
            have h1 : 128 ^ i * u ≤ 128 ^ i * 127 := Nat.mul_le_mul_left _ (by omega)
            rw [Nat.pow_succ]
            omega
          refine ev_eq (code_Read_l0 l hl hb d (i + 1) (acc + 128 ^ i * u) (by omega) (by omega) hacc) ?_
          unfold readFrom
          cases hr : rd1 (i + 1) (l.drop (i + 1)) with
          | none => rfl
          | some p =>
            simp only [Option.map_some, Prod.mk.injEq, and_true]
            refine ⟨?_, by omega⟩
            rw [show (l[i] - 128).toNat = u by omega, Nat.pow_succ, Nat.mul_add, Nat.mul_assoc, Nat.add_assoc]
      by_cases h9' : i = 9
      · refine ev_pos (by omega) ?_
        rw [decide_eq_false (show ¬ l[i] > 1 from fun h => h9 ⟨h9', h⟩)]
        exact key
      · exact ev_neg (by omega) key
theorem code_Read_ev (l : List Int) (hl : l.length < 9223372036854775807) (hb : ∀ x ∈ l, 0 ≤ x ∧ x ≤ 255) : Ev (fun k => code_Read.f k l) (readS l) := by
  unfold code_Read.f
  refine ev_eq (code_Read_l0 l hl hb l.length 0 0 (by omega) (by omega) (by decide)) ?_
  unfold readFrom readS
  rw [List.drop_zero]
  cases rd1 0 l with
  | none => rfl
  | some p => simp

theorem code_Text_ev {s : ByteArray} (h : s.size ≤ 140737488351232) : Ev (fun k => code_Text.f k s) (smallN s.size ++ bytesOf s) := by
  unfold code_Text.f
  rw [u64w_in (by omega) (by omega)]
  refine Ev.bind (code_Small_ev (by omega) (by omega)) ?_
  have := smallN_len10 (n := s.size) (by omega)
  exact ev_pos (by rw [Int.toNat_natCast]; omega) (Ev.now _)

theorem code_Cut_ev (l : List Int) (hl : l.length ≤ 140737488351232) (hb : ∀ x ∈ l, 0 ≤ x ∧ x ≤ 255) : Ev (fun k => code_Cut.f k l) (cutS l) := by
  unfold code_Cut.f
  refine Ev.bind (code_Read_ev l (by omega) hb) ?_
  unfold readS cutS
  cases hr : rd1 0 l with
  | none => exact ev_neg (by decide) (Ev.now _)
  | some p =>
    obtain ⟨h1, h2, h3⟩ := rd1_only0 hb hr
    have hlen := rd1_len hr
    refine ev_pos rfl ?_
    have e0 : wrap64 ((l.length : Int) - (p.2 : Int)) = (l.length : Int) - (p.2 : Int) := w64 (by omega) (by omega)
    have e1 : IntKind.u64.wrap ((l.length : Int) - (p.2 : Int)) = (l.length : Int) - (p.2 : Int) := u64w_in (by omega) (by omega)
    simp only [e0, e1]
    by_cases h : p.2 + p.1 ≤ l.length
    · rw [if_pos h]
      refine ev_neg (by omega) ?_
      have e2 : wrap64 ((p.2 : Int) + wrap64 (p.1 : Int)) = ((p.2 + p.1 : Nat) : Int) := by
        rw [w64 (i := (p.1 : Int)) (by omega) (by omega), w64 (by omega) (by omega)]
        omega
      simp only [e2]
      refine ev_pos (by omega) (ev_pos (by omega) (ev_pos (by omega) (ev_pos (by omega) ?_)))
      simp only [Int.toNat_natCast]
      refine Ev.bind (a := l.drop (p.2 + p.1)) ?_ (Ev.now _)
      unfold bytes_Clone.f
      exact ev_pos (by rw [List.length_drop]; simp; omega) (ev_some (by simp))
    · rw [if_neg h]
      exact ev_pos (by omega) (Ev.now _)
theorem strOfNums_bytes (s : ByteArray) : strOfNums (bytesOf s) = s := by
  rw [bytesOf_map, strOfNums_map, ba_eta]
theorem cut_text (s : ByteArray) (rest : List Int) (hs : s.size < 18446744073709551616) : cutS (smallN s.size ++ bytesOf s ++ rest) = (s, rest, 0) := by
  unfold cutS
  have hb := bytesOf_length s
  rw [List.append_assoc, rd1_small0 hs]
  simp only
  rw [if_pos (by simp only [List.length_append]; omega)]
  have e1 : (smallN s.size ++ (bytesOf s ++ rest)).take ((smallN s.size).length + s.size) = smallN s.size ++ bytesOf s := by
    rw [← List.append_assoc]
    exact List.take_left' (by simp only [List.length_append]; omega)
  have e2 : (smallN s.size ++ (bytesOf s ++ rest)).drop ((smallN s.size).length + s.size) = rest := by
    rw [← List.append_assoc]
    exact List.drop_left' (by simp only [List.length_append]; omega)
  rw [e1, e2, List.drop_left, strOfNums_bytes]
def digits (n : Nat) : Nat := if n = 0 then 0 else (smallN n).length
theorem digits_step (n : Nat) (h : n ≠ 0) : digits n = digits (n / 128) + 1 := by
  unfold digits
  rw [if_neg h]
  by_cases h1 : n < 128
  · rw [smallN_lt h1, if_pos (by omega)]
    rfl
  · rw [smallN_ge h1, if_neg (by omega)]
    rfl
theorem small_digits (n : Nat) : (smallN n).length = digits (n / 128) + 1 := by
  by_cases h : n = 0
  · subst h
    rw [smallN_lt (by omega)]
    rfl
  · rw [← digits_step n h]
    unfold digits
    rw [if_neg h]
theorem back_l0 (x0 : Int) (s : ByteArray) (rest : List Int) (b : List Int) (hb : b.length ≤ 100) : ∀ (d y c : Nat), y < 128 ^ d → y < 18446744073709551616 → c + digits y = b.length → 
    Ev (fun k => millhandlaw01_CodeBack.l0 k x0 s rest true b x0 (b.length : Int) 0 s rest 0 (c : Int) (y : Int)) true
  | d, y, c, hy, hu, hc => by
    by_cases h : y = 0
    · subst h
      have hcz : c = b.length := by simpa [digits] using hc
      exact Ev.step (fun _ => millhandlaw01_CodeBack.l0.eq_2 ..) (ev_neg (by omega) (ev_pos rfl (ev_pos rfl (ev_pos rfl (ev_pos rfl (ev_pos (by omega) (ev_pos rfl (ev_pos rfl (ev_some (by simp))))))))))
    · rw [digits_step y h] at hc
      refine Ev.step (fun _ => millhandlaw01_CodeBack.l0.eq_2 ..) (ev_pos (by omega) ?_)
      have e1 : wrap64 ((c : Int) + 1) = ((c + 1 : Nat) : Int) := by rw [w64 (by omega) (by omega)]; omega
      have e2 : IntKind.u64.wrap (Int.tdiv (y : Int) 128) = ((y / 128 : Nat) : Int) := by
        rw [Int.tdiv_eq_ediv_of_nonneg (by omega), u64w_in (by omega) (by omega)]
        omega
      rw [e1, e2]
      match d, hy with
      | 0, hy => exact absurd (by simpa using hy) h
      | d + 1, hy => exact back_l0 x0 s rest b hb d (y / 128) (c + 1) (by rw [Nat.div_lt_iff_lt_mul (by decide)]; rw [Nat.pow_succ] at hy; exact hy) (by omega) (by omega)
theorem CodeBack_ev (n : Int) (h0 : 0 ≤ n) (h1 : n < 18446744073709551616) (s : ByteArray) (rest : List Int) (hr : ∀ x ∈ rest, 0 ≤ x ∧ x ≤ 255) : Ev (fun k => millhandlaw01_CodeBack.f k n s rest) true := by
  unfold millhandlaw01_CodeBack.f
  refine Ev.bind codeAlive_ev (ev_pos rfl ?_)
  by_cases h5 : (s.size : Int) > 10000
  · exact ev_pos h5 (Ev.step (fun _ => millhandlaw01_CodeBack.j0.eq_2 ..) (ev_pos rfl (Ev.now _)))
  · refine ev_neg h5 ?_
    by_cases h6 : (rest.length : Int) > 10000
    · rw [decide_eq_true h6]
      exact Ev.step (fun _ => millhandlaw01_CodeBack.j0.eq_2 ..) (ev_pos rfl (Ev.now _))
    · rw [decide_eq_false h6]
      obtain ⟨m, rfl⟩ := Int.eq_ofNat_of_zero_le h0
      have hm : m < 18446744073709551616 := by omega
      have hsl := smallN_len10 hm
      have hsl2 := smallN_len10 (n := s.size) (by omega)
      have hbl := bytesOf_length s
      refine Ev.step (fun _ => millhandlaw01_CodeBack.j0.eq_2 ..) (ev_neg (by decide) (Ev.bind (code_Small_ev h0 h1) ?_))
      have hsb := smallN_bytes m
      have hsb2 := smallN_bytes s.size
      have hbb : ∀ x ∈ bytesOf s, 0 ≤ x ∧ x ≤ 255 := by
        intro x hx
        rw [bytesOf_map, List.mem_map] at hx
        obtain ⟨b, _, rfl⟩ := hx
        have := b.toNat_lt
        omega
      have em : ((m : Int)).toNat = m := by omega
      rw [em]
      refine ev_pos (by simp only [List.length_nil]; omega) ?_
      simp only [Option.bind_some, List.nil_append]
      refine ev_pos (by omega) (Ev.bind (code_Read_ev (smallN m ++ rest) (by rw [List.length_append]; omega) ?_) (Ev.bind (code_Text_ev (s := s) (by omega)) (ev_pos (by simp only [List.length_append]; omega) (Ev.bind (code_Cut_ev (smallN s.size ++ bytesOf s ++ rest) (by simp only [List.length_append]; omega) ?_) ?_))))
      · intro x hx
        rcases List.mem_append.mp hx with hx | hx
        · exact hsb x hx
        · exact hr x hx
      · intro x hx
        rcases List.mem_append.mp hx with hx | hx
        · rcases List.mem_append.mp hx with hx | hx
          · exact hsb2 x hx
          · exact hbb x hx
        · exact hr x hx
      · rw [cut_text s rest (by omega), readS_small hm]
        have e2 : IntKind.u64.wrap (Int.tdiv (m : Int) 128) = ((m / 128 : Nat) : Int) := by
          rw [Int.tdiv_eq_ediv_of_nonneg (by omega), u64w_in (by omega) (by omega)]
          omega
        rw [e2]
        exact back_l0 (m : Int) s rest (smallN m) (by omega) 10 (m / 128) 1 (by omega) (by omega) (by rw [small_digits]; omega)
theorem CodeBack_walk (w : World) (a0 : Int) (g0_ : (Lit.int .u64 a0).wf = true) (a1 : ByteArray) (g1_ : a1.size ≤ 140737488351232) (A2 : Option Addr) (c2 : Nat) (l2 : List Int) (r2 : Kd.C (Kd.int .u8) w A2 l2.length l2) (q2 : l2.length ≤ c2) (g2_ : (l2.length * 1 ≤ 140737488351232 ∧ l2.length ≤ 9223372036854775807 ∧ ∀ y0 ∈ l2, (Lit.int .u8 y0).wf = true)) :
    Calls Tryd.prog 7 #[.int .u64 a0, .string a1, .slice A2 l2.length c2] w fun e w' => e = .returned (.bool true) ∧ Below w.heap.size w w' := by
  have h0 := wfu64.mp g0_
  obtain ⟨k, h⟩ := (CodeBack_ev a0 h0.1 h0.2 a1 l2 (fun x hx => wfu8.mp (g2_.2.2 x hx))).rounds
  exact millhandlaw01_CodeBack.calls k a0 a1 A2 c2 l2 true w r2 q2 h
end Go.Proofs.YtagdmgjdhbmaiaaDoor.R

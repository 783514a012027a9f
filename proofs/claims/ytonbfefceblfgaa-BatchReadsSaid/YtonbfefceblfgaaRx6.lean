/- Contracts of Go functions and what they come to, over the translation of this seat: made by a program of this session (print2.py). -/
import Derived.Test.YtonbfefceblfgaaRx0
import Derived.Test.YtonbfefceblfgaaRx3
import Derived.Test.YtonbfefceblfgaaRx4
import Derived.Test.YtonbfefceblfgaaRx5
namespace Go.Proofs.Ytonbfefceblfgaa.R
open Go.RowKit Go.Proofs.Ytonbfefceblfgaa.Ret Go.Proofs.Ytonbfefceblfgaa.Plain Go.Proofs.Ytonbfefceblfgaa.Box Go.Proofs.YtonbfefceblfgaaW.PrintWords Go.Proofs.YtonbfefceblfgaaW.PrintLast Go.Proofs.YtonbfefceblfgaaW.PrintMore
attribute [local go_sem] max2_int min2_int max_two min_two max_three min_three max_four min_four   -- for this text's walks alone
set_option linter.unusedVariables false
set_option linter.unusedSimpArgs false

/-! ### batch_Read: function 17 -/
/-! ### which batches may be -/
abbrev OpT := S49
abbrev EnT := S51
def mayS (o : OpT) : Bool := decide (1 ≤ o.f0.size) && decide (o.f0.size ≤ 64) && decide (o.f2.size ≤ 512) && (!o.f1 || o.f2.toList.isEmpty)
theorem batch_may_eq (o : OpT) : batch_may.f o.f0 o.f1 o.f2 = some (mayS o) := by
  unfold batch_may.f mayS
  cases o.f1 <;> cases o.f2.toList <;> repeat' split
  all_goals simp_all
  all_goals omega
def checkS (l : List OpT) : Int := if l.length < 1 ∨ 64 < l.length then 4 else if l.all mayS then 0 else 8
theorem rd_op (l : List OpT) (i : Nat) (h : i < l.length) : rd_T49 l (i : Int) = l[i] := by
  simp [rd_T49, List.getD_eq_getElem?_getD, List.getElem?_eq_getElem h]
theorem batch_Check_l0 (l : List OpT) (hl : l.length < 9223372036854775807) : ∀ (d i : Nat), i + d = l.length → Ev (fun k => batch_Check.l0 k l (l.length : Int) (i : Int)) (if (l.drop i).all mayS then 0 else 8)
  | 0, i, h => by
    refine Ev.step (fun _ => batch_Check.l0.eq_2 ..) (ev_neg (by omega) (ev_some ?_))
    rw [List.drop_of_length_le (by omega)]
    rfl
  | d + 1, i, h => by
    have hi : i < l.length := by omega
    refine Ev.step (fun _ => batch_Check.l0.eq_2 ..) (ev_pos (by omega) (ev_pos (by omega) (ev_pos (by omega) ?_)))
    rw [rd_op l i hi, batch_may_eq, List.drop_eq_getElem_cons hi]
    simp only [Option.bind_some]
    by_cases hb : mayS l[i] = true
    · refine ev_pos hb ?_
      rw [w64 (by omega) (by omega)]
      exact ev_eq (batch_Check_l0 l hl d (i + 1) (by omega)) (by simp only [List.all_cons, hb, Bool.true_and])
    · exact ev_neg hb (ev_some (by simp only [List.all_cons, Bool.eq_false_iff.mpr hb, Bool.false_and, Bool.false_eq_true, if_false]))
theorem batch_Check_ev (l : List OpT) (hl : l.length < 9223372036854775807) : Ev (fun k => batch_Check.f k l) (checkS l) := by
  unfold batch_Check.f checkS
  by_cases h1 : l.length < 1
  · rw [if_pos (Or.inl h1)]
    refine ev_pos (by omega) (Ev.step (fun _ => batch_Check.j0.eq_2 ..) (ev_pos rfl (Ev.now _)))
  · refine ev_neg (by omega) (Ev.step (fun _ => batch_Check.j0.eq_2 ..) ?_)
    by_cases h2 : 64 < l.length
    · rw [if_pos (Or.inr h2)]
      exact ev_pos (decide_eq_true (by omega)) (Ev.now _)
    · rw [if_neg (by omega)]
      refine ev_neg (by simp; omega) ?_
      have := batch_Check_l0 l hl l.length 0 (by omega)
      rwa [List.drop_zero] at this
def askedS (s : Int) (l : List OpT) : Int := if s < 1 then 2 else if s > 1099511627712 then 2 else checkS l
theorem batch_asked_ev (s : Int) (l : List OpT) (hl : l.length < 9223372036854775807) : Ev (fun k => batch_asked.f k s l) (askedS s l) := by
  unfold batch_asked.f askedS
  exact ev_ite (fun _ => Ev.now _) (fun _ => ev_ite (fun _ => Ev.now _) (fun _ => Ev.bind (batch_Check_ev l hl) (Ev.now _)))
theorem asked_ok {s : Int} {l : List OpT} (h : askedS s l = 0) : 1 ≤ s ∧ s ≤ 1099511627712 ∧ 1 ≤ l.length ∧ l.length ≤ 64 ∧ ∀ o ∈ l, mayS o = true := by
  unfold askedS checkS at h
  repeat' split at h
  all_goals first | (exfalso; omega) | skip
  rename_i h1 h2 h3 h4
  rw [List.all_eq_true] at h4
  exact ⟨by omega, by omega, by omega, by omega, h4⟩
theorem may_sizes {o : OpT} (h : mayS o = true) : 1 ≤ o.f0.size ∧ o.f0.size ≤ 64 ∧ o.f2.size ≤ 512 ∧ (o.f1 = true → o.f2.toList = []) := by
  unfold mayS at h
  simp only [Bool.and_eq_true, decide_eq_true_eq, Bool.or_eq_true, Bool.not_eq_true', List.isEmpty_iff] at h
  obtain ⟨⟨⟨h1, h2⟩, h3⟩, h4⟩ := h
  refine ⟨h1, h2, h3, fun hd => ?_⟩
  rcases h4 with h4 | h4
  · rw [hd] at h4; cases h4
  · exact h4



theorem or_shift (a v i : Nat) (hi : i ≤ 9) (ha : a < 128 ^ i) (hv : v < 128) (h9 : i = 9 → v ≤ 1) : Go.bits .or .u64 (a : Int) (shl .u64 (IntKind.u64.wrap (v : Int)) (wrap64 (7 * (i : Int)))) = ((a + 128 ^ i * v : Nat) : Int) := by
  have hp : (2 : Nat) ^ (7 * i) = 128 ^ i := by rw [Nat.pow_mul]
  have hb : 128 ^ i * v < 18446744073709551616 := by
    by_cases h : i = 9
    · subst h
      have := h9 rfl
      have e : (128 : Nat) ^ 9 = 9223372036854775808 := by decide
      rw [e]; omega
    · have h1 : (128 : Nat) ^ i ≤ 128 ^ 8 := Nat.pow_le_pow_right (by decide) (by omega)
      have e : (128 : Nat) ^ 8 = 72057594037927936 := by decide
      rw [e] at h1
      have := Nat.mul_le_mul h1 (Nat.le_of_lt_succ hv)
      omega
  have ha2 : a < 18446744073709551616 := by
    have h1 : (128 : Nat) ^ i ≤ 128 ^ 9 := Nat.pow_le_pow_right (by decide) hi
    have e : (128 : Nat) ^ 9 = 9223372036854775808 := by decide
    omega
  have hs : shl .u64 (IntKind.u64.wrap (v : Int)) (wrap64 (7 * (i : Int))) = ((128 ^ i * v : Nat) : Int) := by
    unfold shl
    rw [w64 (by omega) (by omega)]
    have e1 : min (7 * (i : Int)).toNat IntKind.u64.bits = 7 * i := by simp [IntKind.bits]; omega
    rw [e1]
    have e2 : (v : Int) * 2 ^ (7 * i) = ((128 ^ i * v : Nat) : Int) := by
      rw [← hp]
      push_cast
      exact Int.mul_comm _ _
    rw [u64w_in (i := (v : Int)) (by omega) (by omega), e2, u64w_in (by omega) (by omega)]
  rw [hs, (bits_nat .u64 64 (by decide) (fun n h0 h1 => u64w_in h0 (by omega)) a (128 ^ i * v) (by omega) (by omega)).2]
  congr 1
  rw [Nat.or_comm, ← hp, ← Nat.two_pow_add_eq_or_of_lt (by rw [hp]; exact ha), Nat.add_comm]
theorem rd_nat (l : List Int) (i : Nat) (h : i < l.length) : rd l (i : Int) = l[i] := by
  simp [rd, List.getD_eq_getElem?_getD, List.getElem?_eq_getElem h]
def readFrom (acc i : Nat) (l : List Int) : Int × Int × Int := match rd1 i (l.drop i) with | some p => (((acc + 128 ^ i * p.1 : Nat) : Int), ((i + p.2 : Nat) : Int), 0) | none => (0, 0, 8)
theorem code_Read_l0 (l : List Int) (hl : l.length < 9223372036854775807) (hb : ∀ x ∈ l, 0 ≤ x ∧ x ≤ 255) : ∀ (d i acc : Nat), i + d = l.length → i ≤ 9 → acc < 128 ^ i → Ev (fun k => code_Read.l0 k (acc : Int) l (l.length : Int) (i : Int)) (readFrom acc i l)
  | 0, i, acc, h, hi, ha => by
    refine Ev.step (fun _ => code_Read.l0.eq_2 ..) (ev_neg (by omega) (ev_some ?_))
    unfold readFrom
    rw [List.drop_of_length_le (by omega)]
    rfl
  | d + 1, i, acc, h, hi, ha => by
    have hlt : i < l.length := by omega
    have hx := hb _ (List.getElem_mem hlt)
    refine Ev.step (fun _ => code_Read.l0.eq_2 ..) (ev_pos (by omega) (ev_pos (by omega) (ev_pos (by omega) ?_)))
    rw [rd_nat l i hlt]
    have hrf : readFrom acc i l = match (if i = 9 ∧ 1 < l[i] then none else if l[i] < 128 then (if l[i] = 0 ∧ 0 < i then none else some ((l[i]).toNat, 1)) else (rd1 (i + 1) (l.drop (i + 1))).map fun p => ((l[i] - 128).toNat + 128 * p.1, p.2 + 1)) with | some p => (((acc + 128 ^ i * p.1 : Nat) : Int), ((i + p.2 : Nat) : Int), 0) | none => (0, 0, 8) := by
      unfold readFrom
      rw [List.drop_eq_getElem_cons hlt, rd1]
    by_cases h9 : i = 9 ∧ 1 < l[i]
    · rw [hrf, if_pos h9]
      exact ev_pos (by omega) (Ev.step (fun _ => code_Read.j1.eq_2 ..) (ev_pos (decide_eq_true (by omega)) (Ev.now _)))
    · have key : Ev (fun k => code_Read.j1 k (acc : Int) (i : Int) l[i] l (l.length : Int) (i : Int) false) (readFrom acc i l) := by
        refine Ev.step (fun _ => code_Read.j1.eq_2 ..) (ev_neg (by simp) (ev_pos (by rw [w64 (by omega) (by omega)]; omega) ?_))
        obtain ⟨v, hv⟩ := Int.eq_ofNat_of_zero_le hx.1
        rw [hrf, if_neg h9, and127 hx.1 (by omega)]
        by_cases h128 : l[i] < 128
        · rw [if_pos h128]
          have e := or_shift acc v i hi ha (by omega) (fun h => by omega)
          have em : l[i] % 128 = (v : Int) := by omega
          rw [em, e]
          refine ev_pos h128 ?_
          by_cases h0 : l[i] = 0
          · refine ev_pos h0 ?_
            by_cases hi0 : 0 < i
            · rw [if_pos (show l[i] = 0 ∧ 0 < i from ⟨h0, hi0⟩)]
              exact ev_pos (by omega) (Ev.now _)
            · rw [if_neg (show ¬ (l[i] = 0 ∧ 0 < i) by omega)]
              refine ev_neg (by omega) (ev_some ?_)
              rw [w64 (by omega) (by omega)]
              simp only [Prod.mk.injEq, and_true]
              refine ⟨?_, by omega⟩
              rw [show (l[i]).toNat = v by omega]
          · rw [if_neg (show ¬ (l[i] = 0 ∧ 0 < i) by omega)]
            refine ev_neg h0 (ev_some ?_)
            rw [w64 (by omega) (by omega)]
            simp only [Prod.mk.injEq, and_true]
            refine ⟨?_, by omega⟩
            rw [show (l[i]).toNat = v by omega]
        · rw [if_neg h128]
          obtain ⟨u, hu⟩ : ∃ u : Nat, l[i] % 128 = (u : Int) ∧ v = u + 128 := ⟨v - 128, by omega, by omega⟩
          have e := or_shift acc u i hi ha (by omega) (fun h => by omega)
          rw [hu.1, e]
          have hi8 : i ≤ 8 := by
            by_cases h9' : i = 9
            · exfalso; exact h9 ⟨h9', by omega⟩
            · omega
          refine ev_neg h128 ?_
          rw [w64 (by omega) (by omega)]
          have hacc : acc + 128 ^ i * u < 128 ^ (i + 1) := by
            have h1 : 128 ^ i * u ≤ 128 ^ i * 127 := Nat.mul_le_mul_left _ (by omega)
            rw [Nat.pow_succ]
            omega
          refine ev_eq (code_Read_l0 l hl hb d (i + 1) (acc + 128 ^ i * u) (by omega) (by omega) hacc) ?_
          unfold readFrom
          cases hr : rd1 (i + 1) (l.drop (i + 1)) with
          | none => rfl
          | some p =>
            simp only [Option.map_some, Prod.mk.injEq, and_true]
            refine ⟨?_, by omega⟩
            rw [show (l[i] - 128).toNat = u by omega, Nat.pow_succ, Nat.mul_add, Nat.mul_assoc, Nat.add_assoc]
      by_cases h9' : i = 9
      · refine ev_pos (by omega) ?_
        rw [decide_eq_false (show ¬ l[i] > 1 from fun h => h9 ⟨h9', h⟩)]
        exact key
      · exact ev_neg (by omega) key
theorem code_Read_ev (l : List Int) (hl : l.length < 9223372036854775807) (hb : ∀ x ∈ l, 0 ≤ x ∧ x ≤ 255) : Ev (fun k => code_Read.f k l) (readS l) := by
  unfold code_Read.f
  refine ev_eq (code_Read_l0 l hl hb l.length 0 0 (by omega) (by omega) (by decide)) ?_
  unfold readFrom readS
  rw [List.drop_zero]
  cases rd1 0 l with
  | none => rfl
  | some p => simp


theorem code_Cut_ev (l : List Int) (hl : l.length ≤ 140737488351232) (hb : ∀ x ∈ l, 0 ≤ x ∧ x ≤ 255) : Ev (fun k => code_Cut.f k l) (cutS l) := by
  unfold code_Cut.f
  refine Ev.bind (code_Read_ev l (by omega) hb) ?_
  unfold readS cutS
  cases hr : rd1 0 l with
  | none => exact ev_neg (by decide) (Ev.now _)
  | some p =>
    obtain ⟨h1, h2, h3⟩ := rd1_only0 hb hr
    have hlen := rd1_len hr
    refine ev_pos rfl ?_
    have e0 : wrap64 ((l.length : Int) - (p.2 : Int)) = (l.length : Int) - (p.2 : Int) := w64 (by omega) (by omega)
    have e1 : IntKind.u64.wrap ((l.length : Int) - (p.2 : Int)) = (l.length : Int) - (p.2 : Int) := u64w_in (by omega) (by omega)
    simp only [e0, e1]
    by_cases h : p.2 + p.1 ≤ l.length
    · rw [if_pos h]
      refine ev_neg (by omega) ?_
      have e2 : wrap64 ((p.2 : Int) + wrap64 (p.1 : Int)) = ((p.2 + p.1 : Nat) : Int) := by
        rw [w64 (i := (p.1 : Int)) (by omega) (by omega), w64 (by omega) (by omega)]
        omega
      simp only [e2]
      refine ev_pos (by omega) (ev_pos (by omega) (ev_pos (by omega) (ev_pos (by omega) ?_)))
      simp only [Int.toNat_natCast]
      refine Ev.bind (a := l.drop (p.2 + p.1)) ?_ (Ev.now _)
      unfold bytes_Clone.f
      exact ev_pos (by rw [List.length_drop]; simp; omega) (ev_some (by simp))
    · rw [if_neg h]
      exact ev_pos (by omega) (Ev.now _)


/-! ### a batch read -/
/-- So many operations that bytes begin with, behind some, and what is left. -/
def opsFrom : Nat → List Int → List OpT → Option (List OpT × List Int)
  | 0, b, acc => some (acc, b)
  | _ + 1, [], _ => none
  | m + 1, x :: t, acc =>
    if 1 < x then none
    else if (cutS t).2.2 = 0 then
      (if x = 1 then opsFrom m (cutS t).2.1 (acc ++ [⟨(cutS t).1, true, ⟨#[]⟩⟩])
       else if (cutS (cutS t).2.1).2.2 = 0 then opsFrom m (cutS (cutS t).2.1).2.1 (acc ++ [⟨(cutS t).1, false, (cutS (cutS t).2.1).1⟩]) else none)
    else none
/-- What stands behind the numbers: the operations, or nothing. -/
def readOps (s : Nat) (m : Nat) (b : List Int) : Int × List OpT × Int :=
  match opsFrom m b [] with
  | some r => if r.2.length = 0 ∧ askedS s r.1 = 0 then ((s : Int), r.1, 0) else (0, [], 8)
  | none => (0, [], 8)
/-- The batch of bytes, or the error. -/
def readBatch (l : List Int) : Int × List OpT × Int :=
  if l.length > 16384 then (0, [], 3)
  else match rd1 0 l with
    | none => (0, [], 8)
    | some p => if p.1 > 1099511627776 then (0, [], 8)
      else match rd1 0 (l.drop p.2) with
        | none => (0, [], 8)
        | some q => if q.1 > 64 then (0, [], 8) else readOps p.1 q.1 ((l.drop p.2).drop q.2)


/-! ### the closure that cuts a text off the bytes that it has captured -/
theorem grown_none {w w1 w2 : World} {g : Nat} (h : Below w.heap.size w w1) (h2 : w1.grownBy w2 (some g)) : w.grownBy w2 (some g) :=
  ⟨h2.os.trans h.os, h2.tape.trans h.tape, h2.output.trans h.output, Nat.le_trans h.size h2.size, fun k hk hne => (h2.block k (Nat.lt_of_lt_of_le hk h.size) hne).trans (h.block k hk)⟩
theorem text_calls (g : Nat) (A : Option Addr) (c : Nat) (l : List Int) (w : World) (hb : Boxed w g 24 (.slice A l.length c)) (hr : Kd.C (Kd.int .u8) w A l.length l) (hc : l.length ≤ c) (hl : l.length ≤ 140737488351232) (hy : ∀ x ∈ l, 0 ≤ x ∧ x ≤ 255) :
    Calls Try.prog 30 #[.pointer (some ⟨g, 0, none⟩)] w fun e w' => ∃ A' c', e = .returned (.tuple #[.string (cutS l).1, .bool ((cutS l).2.2 == 0)]) ∧ Boxed w' g 24 (.slice A' (cutS l).2.1.length c') ∧
      Kd.C (Kd.int .u8) w' A' (cutS l).2.1.length (cutS l).2.1 ∧ (cutS l).2.1.length ≤ c' ∧ w.grownBy w' (some g) ∧ ∀ ad, A' = some ad → w.heap.size ≤ ad.block := by
  obtain ⟨k, hk0⟩ := (code_Cut_ev l hl hy).rounds
  have hk := Aside0.mk hk0
  clear hk0
  have hcell := hb.cell
  have HR := Aside0.mk hr
  have HB := Aside0.mk hb
  clear hr hb hy
  go_enter Try.func30, Try.ntmps30
  go_wp2_with fail
  refine (code_Cut.calls k A c l (cutS l).1 (cutS l).2.1 (cutS l).2.2 _ HR.out hc hk.out).mono ?_
  rintro e w1 ⟨v, rfl, hR, hbel⟩
  have hb1 := Boxed.kept HB.out (grown_of_below hbel none) (by simp)
  obtain ⟨A', c', hv, hle, hC⟩ := Kd.R_reads hR
  subst hv
  have hfa : ∀ ad, A' = some ad → w.heap.size ≤ ad.block := fun ad e => ((Kd.R_bound hR).1 ad.block (by subst e; rfl)).2.1
  have HFA := Aside0.mk hfa
  clear hfa
  have hcell1 := hb1.cell
  have hfr1 := hb1.frozen
  have HB1 := Aside0.mk hb1
  have HC := Aside0.mk hC
  have HL := Aside0.mk hbel
  clear hb1 hC hR hbel hk HR HB hcell
  go_wp2
  go_ret2
  exact ⟨A', c', rfl, HB1.out.set _, C_grown HB1.out (by simp) (grownBy_setCell' _ _ _) HC.out, hle, grown_none HL.out (grownBy_setCell' _ _ _), HFA.out⟩


/-! ### what a round of Read holds -/
theorem wl_gen {P : Program} {ops : Array Oper} {Q : Exit → Act → World → Prop} {l : List Oper} {a : Act} {W : World} (Pr : World → Prop) (h : Pr W) (k : ∀ W', Pr W' → wpList P ops Q l a W') : wpList P ops Q l a W := k W h
theorem C_grownB {w w1 : World} {g t : Nat} {cs : Array Value} {k : IntKind} {A : Option Addr} {n : Nat} {xs : List Int} (hb : w.heap[g]? = some (.cells cs t (0, 0))) (hv : ∀ (i : Nat) (q : IntKind) (m : Int), cs[i]? ≠ some (.int q m)) (hg : w.grownBy w1 (some g)) (h : (Kd.int k).C w A n xs) : (Kd.int k).C w1 A n xs := by
  refine ⟨h.1, h.2.1, fun hn => ?_⟩
  obtain ⟨ad, e, hc⟩ := h.2.2 hn
  refine ⟨ad, e, fun j p hj => ?_⟩
  obtain ⟨c, hl, hK, hcell⟩ := hc j p hj
  refine ⟨c, hl, hK, fun i u hu => hg.cell (hcell i u hu) (fun he => ?_)⟩
  have hK' : c = [.int k p] := hK
  have hu' : u = .int k p := by
    rw [hK'] at hu
    cases i with
    | zero => simpa using hu.symm
    | succ i => simp at hu
  have h1 := hcell i u hu
  injection he with he
  have h2 : w.heap[(ad.add (j * (Kd.int k).sz + i)).block]? = some (.cells cs t (0, 0)) := by rw [he]; exact hb
  unfold World.cell? at h1
  rw [h2] at h1
  simp only at h1
  split at h1
  · cases h1
  · exact hv _ k p (by rw [← hu']; exact h1)
theorem no_int (s : ByteArray) (d : Bool) (t : ByteArray) : ∀ (i : Nat) (q : IntKind) (m : Int), (#[.string s, .bool d, .string t] : Array Value)[i]? ≠ some (.int q m)
  | 0, q, m => by simp
  | 1, q, m => by simp
  | 2, q, m => by simp
  | i + 3, q, m => by simp
theorem C_apart {w w1 : World} {row : Option Nat} {k : IntKind} {A : Option Addr} {n : Nat} {xs : List Int} (hg : w.grownBy w1 row) (hne : ∀ ad, A = some ad → 0 < n → some ad.block ≠ row) (h : (Kd.int k).C w A n xs) : (Kd.int k).C w1 A n xs := by
  refine ⟨h.1, h.2.1, fun hn => ?_⟩
  obtain ⟨ad, e, hc⟩ := h.2.2 hn
  refine ⟨ad, e, fun j p hj => ?_⟩
  obtain ⟨c, hl, hK, hcell⟩ := hc j p hj
  refine ⟨c, hl, hK, fun i u hu => hg.cell (hcell i u hu) ?_⟩
  have : (ad.add (j * (Kd.int k).sz + i)).block = ad.block := by unfold Addr.add; split <;> rfl
  rw [this]
  exact hne ad e hn
theorem C_lt {w : World} {k : IntKind} {A : Option Addr} {n : Nat} {xs : List Int} (h : (Kd.int k).C w A n xs) (hn : 0 < n) {ad : Addr} (e : A = some ad) : ad.block < w.heap.size := by
  obtain ⟨ad', e', hx⟩ := Kd.at_int h 0 (by omega) (by omega)
  rw [e] at e'
  cases e'
  have h1 := World.block_lt_of_cell? w _ hx
  have : (ad.add (0 : Int).toNat).block = ad.block := by unfold Addr.add; split <;> rfl
  rwa [this] at h1
structure St (w : World) (g gb : Nat) (v10 : Value) (ops : List OpT) (b : List Int) (s : ByteArray) (d : Bool) (t : ByteArray) (A : Option Addr) (c : Nat) (W : World) : Prop where
  box : Boxed W g 24 (.slice A b.length c)
  blk : W.heap[gb]? = some (.cells #[.string s, .bool d, .string t] 49 (0, 0))
  row : Kd.C (Kd.int .u8) W A b.length b
  own : Kd.R k49 49 W w.heap.size (fun k => (w.heap.size ≤ k ∧ k ≠ g) ∧ k ≠ gb) v10 ops
  bel : Below w.heap.size w W
  far : ∀ ad, A = some ad → 0 < b.length → some ad.block ≠ v10.ownBlock
  ne : gb ≠ g
  le : w.heap.size ≤ g
  le' : w.heap.size ≤ gb
section
variable {w W W2 : World} {g gb : Nat} {v10 : Value} {ops : List OpT} {b b2 : List Int} {s : ByteArray} {d : Bool} {t : ByteArray} {A A2 : Option Addr} {c c2 : Nat}
theorem St.setBox (h : St w g gb v10 ops b s d t A c W) (hC : Kd.C (Kd.int .u8) W A2 b2.length b2) (hfar : ∀ ad, A2 = some ad → 0 < b2.length → some ad.block ≠ v10.ownBlock) : St w g gb v10 ops b2 s d t A2 c2 (W.setCell ⟨g, 0, none⟩ (.slice A2 b2.length c2)) where
  box := h.box.set _
  blk := blk_far h.blk (p := ⟨g, 0, none⟩) h.ne _
  row := C_grown h.box (by simp) (grownBy_setCell' _ _ _) hC
  own := Kd.R_far (p := ⟨g, 0, none⟩) h.own (fun _ hk => hk.1.2) _
  bel := below_set h.bel h.le
  far := hfar
  ne := h.ne
  le := h.le
  le' := h.le'
theorem grownBy_cell (W : World) (b i : Nat) (v : Value) : W.grownBy (W.setCell ⟨b, i, none⟩ v) (some b) :=
  ⟨rfl, rfl, rfl, (KeepsWalks.setCell W _ v).size, fun k _ hk => Below.heap_setCell _ _ _ k (fun e => hk (by rw [e]))⟩
theorem St.set0 (h : St w g gb v10 ops b s d t A c W) (u : ByteArray) : St w g gb v10 ops b u d t A c (W.setCell ⟨gb, 0, none⟩ (.string u)) where
  box := blk_far (p := ⟨gb, 0, none⟩) (show W.heap[g]? = _ from h.box) (Ne.symm h.ne) _
  blk := blk_put h.blk 0 _ rfl
  row := C_grownB h.blk (no_int s d t) (grownBy_cell _ _ _ _) h.row
  own := Kd.R_far (p := ⟨gb, 0, none⟩) h.own (fun _ hk => hk.2) _
  bel := below_set h.bel h.le'
  far := h.far
  ne := h.ne
  le := h.le
  le' := h.le'
theorem St.set2 (h : St w g gb v10 ops b s d t A c W) (u : ByteArray) : St w g gb v10 ops b s d u A c (W.setCell ⟨gb, 2, none⟩ (.string u)) where
  box := blk_far (p := ⟨gb, 2, none⟩) (show W.heap[g]? = _ from h.box) (Ne.symm h.ne) _
  blk := blk_put h.blk 2 _ rfl
  row := C_grownB h.blk (no_int s d t) (grownBy_cell _ _ _ _) h.row
  own := Kd.R_far (p := ⟨gb, 2, none⟩) h.own (fun _ hk => hk.2) _
  bel := below_set h.bel h.le'
  far := h.far
  ne := h.ne
  le := h.le
  le' := h.le'
theorem St.call (h : St w g gb v10 ops b s d t A c W) (hb : Boxed W2 g 24 (.slice A2 b2.length c2)) (hC : Kd.C (Kd.int .u8) W2 A2 b2.length b2) (hg : W.grownBy W2 (some g)) (hfr : ∀ ad, A2 = some ad → W.heap.size ≤ ad.block) : St w g gb v10 ops b2 s d t A2 c2 W2 where
  box := hb
  blk := blk_grown h.blk hg (fun e => h.ne (Option.some.inj e))
  row := hC
  own := Kd.R_grown h.own hg (fun _ hk e => hk.1.2 (Option.some.inj e))
  bel := h.bel.grown hg (below_size h.bel) (fun j e => by have := h.le; have := Option.some.inj e; omega)
  far := fun ad e _ e2 => by have h1 := (Kd.R_bound h.own).1 ad.block e2.symm; have h2 := hfr ad e; have h3 := h1.2.2.1; omega
  ne := h.ne
  le := h.le
  le' := h.le'
/-- A round's own struct. -/
theorem St.new (hb : Boxed W g 24 (.slice A b.length c)) (hC : Kd.C (Kd.int .u8) W A b.length b) (hR : Kd.R k49 49 W w.heap.size (fun k => w.heap.size ≤ k ∧ k ≠ g) v10 ops) (hB : Below w.heap.size w W) (hle : w.heap.size ≤ g) (hfar : ∀ ad, A = some ad → 0 < b.length → some ad.block ≠ v10.ownBlock)
    (h2 : Below W.heap.size W W2) (hk : W2.heap[W.heap.size]? = some (.cells #[.string s, .bool d, .string t] 49 (0, 0))) : St w g W.heap.size v10 ops b s d t A c W2 where
  box := blk_below (show W.heap[g]? = _ from hb) h2
  blk := hk
  row := Kd.C_below hC h2
  own := Kd.R_below (Kd.R_mono (Kd.R_bound hR) (fun k hk => ⟨hk.1, by have := hk.2.2.1; omega⟩)) h2
  bel := below_step hB h2
  far := hfar
  ne := by have := hb.lt; omega
  le := hle
  le' := below_size hB
/-- Behind the round's append. -/
theorem St.app (h : St w g gb v10 ops b s d t A c W) {v1 : Value} {ops1 : List OpT} (ho : Kd.R k49 49 W2 w.heap.size (fun k => (w.heap.size ≤ k ∧ k ≠ g) ∧ k ≠ gb) v1 ops1) (hg : W.grownBy W2 v10.ownBlock) (hat : v1.ownBlock = v10.ownBlock ∨ ∃ q, v1.ownBlock = some q ∧ W.heap.size ≤ q) :
    Boxed W2 g 24 (.slice A b.length c) ∧ Kd.C (Kd.int .u8) W2 A b.length b ∧ Kd.R k49 49 W2 w.heap.size (fun k => w.heap.size ≤ k ∧ k ≠ g) v1 ops1 ∧ ∀ ad, A = some ad → 0 < b.length → some ad.block ≠ v1.ownBlock := by
  refine ⟨h.box.kept hg (fun e => (h.own.1 g e.symm).1.2 rfl), C_apart hg h.far h.row, Kd.R_mono ho (fun _ hk => hk.1), fun ad e hn => ?_⟩
  rcases hat with e2 | ⟨q, e2, hq⟩
  · rw [e2]
    exact h.far ad e hn
  · rw [e2]
    have := C_lt h.row hn e
    intro e3
    have := Option.some.inj e3
    omega
end
theorem cutS_mem (l : List Int) : ∀ y ∈ (cutS l).2.1, y ∈ l := by
  intro y hy
  unfold cutS at hy
  split at hy
  · split at hy
    · exact List.mem_of_mem_drop hy
    · cases hy
  · cases hy
theorem cutS_len (l : List Int) : (cutS l).2.1.length ≤ l.length := by
  unfold cutS
  split
  · split
    · simp only [List.length_drop]; omega
    · simp
  · simp
def batch_Read.f (l0 : List Int) : Option (Int × (List (S49)) × Int) := if (∀ x ∈ l0, 0 ≤ x ∧ x ≤ 255) ∧ l0.length ≤ 140737488351232 then some (readBatch l0) else none
set_option maxHeartbeats 8000000 in
set_option maxRecDepth 100000 in
theorem batch_Read.calls (A0 : Option Addr) (c0 : Nat) (l0 : List Int) (r1 : Int) (r2 : List (S49)) (r3 : Int) (w : World) (hr0 : Kd.C (Kd.int .u8) w A0 l0.length l0) (hc0 : l0.length ≤ c0) (h : batch_Read.f l0 = some (r1, r2, r3)) :
    Calls Try.prog 17 #[.slice A0 l0.length c0] w fun e w' => ∃ v1_ : Value, e = .returned (.tuple #[.int .i64 r1, v1_, .int .i64 r3]) ∧ Kd.R k49 49 w' w.heap.size (fun _ => True) v1_ r2 ∧ Below w.heap.size w w' := by
  unfold batch_Read.f at h
  split at h
  case isFalse => cases h
  rename_i hcond
  obtain ⟨hy, hlen⟩ := hcond
  have hres : readBatch l0 = (r1, r2, r3) := Option.some.inj h
  clear h
  have bad : ∀ {r : Int × List OpT × Int}, r = (0, [], 8) → readBatch l0 = r → r1 = 0 ∧ r2 = [] ∧ r3 = 8 := fun {r} e1 e2 => by
    rw [e2, e1] at hres
    simp only [Prod.mk.injEq] at hres
    exact ⟨hres.1.symm, hres.2.1.symm, hres.2.2.symm⟩
  have HX := Aside0.mk hres
  have HBAD := Aside0.mk @bad
  have HR0 := Aside0.mk hr0
  have HY := Aside0.mk hy
  clear hres bad hr0 hy
  by_cases hbig : l0.length > 16384
  · have e : r1 = 0 ∧ r2 = [] ∧ r3 = 3 := by
      have hres := HX.out
      unfold readBatch at hres
      rw [if_pos hbig] at hres
      simp only [Prod.mk.injEq] at hres
      exact ⟨hres.1.symm, hres.2.1.symm, hres.2.2.symm⟩
    obtain ⟨rfl, rfl, rfl⟩ := e
    have c1 : decide (16384 < (l0.length : Int)) = true := decide_eq_true (by omega)
    clear HX HBAD HR0 HY
    go_enter Try.func17, Try.ntmps17
    go_wp2
    go_ret3
    exact ⟨_, rfl, Kd.R_nil _ _ _ _ _, below_alloc (Below.refl _ _) _⟩
  · have c1 : decide (16384 < (l0.length : Int)) = false := decide_eq_false (by omega)
    obtain ⟨k1, hk1⟩ := (code_Read_ev l0 (by omega) HY.out).rounds
    cases hp : rd1 0 l0 with
    | none =>
      obtain ⟨rfl, rfl, rfl⟩ := HBAD.out rfl (by unfold readBatch; rw [if_neg hbig, hp])
      have hk2 : code_Read.f k1 l0 = some (0, 0, 8) := by rw [hk1]; unfold readS; rw [hp]
      have HK := Aside0.mk hk2
      have HP := Aside0.mk hp
      clear hk1 hk2 HX HBAD hp
      go_enter Try.func17, Try.ntmps17
      go_wp2_with fail
      refine (code_Read.calls k1 A0 c0 l0 0 0 8 _ (Kd.C_alloc HR0.out _) hc0 HK.out).mono ?_
      rintro e w1 ⟨rfl, hb1⟩
      have HB1 := Aside0.mk (below_then (below_alloc (Below.refl _ _) _) (by simp) hb1)
      clear hb1
      go_wp2
      go_ret3
      exact ⟨_, rfl, Kd.R_nil _ _ _ _ _, HB1.out⟩
    | some p =>
      obtain ⟨ps, pn⟩ := p
      have hpl := rd1_len hp
      dsimp only at hpl
      have hk2 : code_Read.f k1 l0 = some ((ps : Int), (pn : Int), 0) := by rw [hk1]; unfold readS; rw [hp]
      have HK := Aside0.mk hk2
      have HBX0 := fun w1 hb => (blk_below (show (w.alloc (.cells #[.slice A0 l0.length c0] 24)).heap[w.heap.size]? = _ from Boxed.new w 24 (.slice A0 l0.length c0)) hb : Boxed w1 w.heap.size 24 (.slice A0 l0.length c0))
      by_cases hps : ps > 1099511627776
      · obtain ⟨rfl, rfl, rfl⟩ := HBAD.out rfl (by unfold readBatch; rw [if_neg hbig, hp]; exact if_pos hps)
        have c2 : decide ((1099511627776 : Int) < (ps : Int)) = true := decide_eq_true (by omega)
        have HP := Aside0.mk hp
        clear hk1 hk2 HX HBAD hp hpl hps HBX0
        go_enter Try.func17, Try.ntmps17
        go_wp2_with fail
        refine (code_Read.calls k1 A0 c0 l0 _ _ _ _ (Kd.C_alloc HR0.out _) hc0 HK.out).mono ?_
        rintro e w1 ⟨rfl, hb1⟩
        have HB1 := Aside0.mk (below_then (below_alloc (Below.refl _ _) _) (by simp) hb1)
        clear hb1
        go_wp2
        go_ret3
        exact ⟨_, rfl, Kd.R_nil _ _ _ _ _, HB1.out⟩
      · have c2 : decide ((1099511627776 : Int) < (ps : Int)) = false := decide_eq_false (by omega)
        obtain ⟨l1, hl1⟩ : ∃ l1, l1 = l0.drop pn := ⟨_, rfl⟩
        obtain ⟨A1, hA1⟩ : ∃ A1, A1 = (if c0 = pn then A0 else A0.map (·.add (pn * 1))) := ⟨_, rfl⟩
        obtain ⟨c1, hc1⟩ : ∃ c1, c1 = c0 - pn := ⟨_, rfl⟩
        have hl1n : l1.length = l0.length - pn := by rw [hl1, List.length_drop]
        have hC1 : Kd.C (Kd.int .u8) w A1 l1.length l1 := by rw [hA1, hl1]; exact Kd.C_drop HR0.out hpl.2 hc0
        have hr1 : l1.length ≤ c1 := by omega
        have hcut1 : ∀ W : World, (Instr.slice 24 (.slice A0 l0.length c0) (some (.int .i64 (pn : Int))) none none).run Try.prog W = .ok (.slice A1 l1.length c1) W := fun W => by
          obtain ⟨i0, hi0, _, hsz0, _⟩ := info_parts info5
          have := cut_from (P := Try.prog) 24 5 .i64 Try.underlying24 hi0 1 hsz0 A0 l0.length c0 (pn : Int) (by omega) (by omega) W
          rw [Int.toNat_natCast, ← hl1n, ← hA1, ← hc1] at this
          exact this
        have hjoin : readBatch l0 = match rd1 0 l1 with
            | none => (0, [], 8)
            | some q => if q.1 > 64 then (0, [], 8) else readOps ps q.1 (l1.drop q.2) := by unfold readBatch; rw [if_neg hbig, hp, hl1]; exact if_neg hps
        have HY1 : Aside0 (∀ x ∈ l1, 0 ≤ x ∧ x ≤ 255) := ⟨fun x hx => HY.out x (List.mem_of_mem_drop (hl1 ▸ hx))⟩
        have hl1b : l1.length ≤ 16384 := by omega
        have HC1 := Aside0.mk hC1
        have p1 : decide (0 ≤ (pn : Int)) = true := decide_eq_true (by omega)
        have p2 : decide ((pn : Int) ≤ (l0.length : Int)) = true := decide_eq_true (by omega)
        obtain ⟨k2, hk3⟩ := (code_Read_ev l1 (by omega) HY1.out).rounds
        have HK2 := Aside0.mk hk3
        have HJ := Aside0.mk hjoin
        clear hp hpl hl1n hC1 hl1 hA1 hc1 hk1 hk2 hk3 hjoin hlen
        cases hq : rd1 0 l1 with
        | none =>
          obtain ⟨rfl, rfl, rfl⟩ := HBAD.out rfl (by rw [HJ.out, hq])
          have hk4 : code_Read.f k2 l1 = some (0, 0, 8) := by rw [HK2.out]; unfold readS; rw [hq]
          have HK4 := Aside0.mk hk4
          clear hk4 hq HK2 HJ HBAD HX
          go_enter Try.func17, Try.ntmps17
          go_wp2_with fail
          refine (code_Read.calls k1 A0 c0 l0 _ _ _ _ (Kd.C_alloc HR0.out _) hc0 HK.out).mono ?_
          rintro e w1 ⟨rfl, hb1⟩
          have HBX : Aside0 (Boxed w1 w.heap.size 24 (.slice A0 l0.length c0)) := ⟨HBX0 _ hb1⟩
          have HB1 := Aside0.mk (below_then (below_alloc (Below.refl _ _) _) (by simp) hb1)
          clear hb1 HBX0
          have hcell1 := Boxed.cell HBX.out
          have hfr1 := Boxed.frozen HBX.out
          go_wp2_with (first | ((with_reducible refine gate_dst (N := 32) rfl ?_); refine wl_gen (fun W => Boxed W w.heap.size 24 (.slice A1 l1.length c1) ∧ Kd.C (Kd.int .u8) W A1 l1.length l1 ∧ Below w.heap.size w W) ⟨Boxed.set _ HBX.out, C_grown HBX.out (by simp) (grownBy_setCell' _ _ _) (Kd.C_below HC1.out HB1.out), below_set HB1.out (Nat.le_refl _)⟩ ?_; rintro w2 ⟨hbx, hrow, hbel⟩; have HBX2 := Aside0.mk hbx; have HC2 := Aside0.mk hrow; have HB2 := Aside0.mk hbel; have hcell2 := hbx.cell; have hfr2 := hbx.frozen; clear hbx hrow hbel; go_step))
          refine (code_Read.calls k2 A1 c1 l1 _ _ _ _ HC2.out hr1 HK4.out).mono ?_
          rintro e w3 ⟨rfl, hb2⟩
          have HB3 := Aside0.mk (below_step HB2.out hb2)
          clear hb2
          go_wp2
          go_ret3
          exact ⟨_, rfl, Kd.R_nil _ _ _ _ _, HB3.out⟩
        | some q =>
          obtain ⟨qs, qn⟩ := q
          have hql := rd1_len hq
          dsimp only at hql
          have hk4 : code_Read.f k2 l1 = some ((qs : Int), (qn : Int), 0) := by rw [HK2.out]; unfold readS; rw [hq]
          have HK4 := Aside0.mk hk4
          by_cases hqs : qs > 64
          · obtain ⟨rfl, rfl, rfl⟩ := HBAD.out rfl (by rw [HJ.out, hq]; exact if_pos hqs)
            have c3 : decide ((64 : Int) < (qs : Int)) = true := decide_eq_true (by omega)
            clear hk4 hq HK2 HJ HBAD HX hql hqs
            go_enter Try.func17, Try.ntmps17
            go_wp2_with fail
            refine (code_Read.calls k1 A0 c0 l0 _ _ _ _ (Kd.C_alloc HR0.out _) hc0 HK.out).mono ?_
            rintro e w1 ⟨rfl, hb1⟩
            have HBX : Aside0 (Boxed w1 w.heap.size 24 (.slice A0 l0.length c0)) := ⟨HBX0 _ hb1⟩
            have HB1 := Aside0.mk (below_then (below_alloc (Below.refl _ _) _) (by simp) hb1)
            clear hb1 HBX0
            have hcell1 := Boxed.cell HBX.out
            have hfr1 := Boxed.frozen HBX.out
            go_wp2_with (first | ((with_reducible refine gate_dst (N := 32) rfl ?_); refine wl_gen (fun W => Boxed W w.heap.size 24 (.slice A1 l1.length c1) ∧ Kd.C (Kd.int .u8) W A1 l1.length l1 ∧ Below w.heap.size w W) ⟨Boxed.set _ HBX.out, C_grown HBX.out (by simp) (grownBy_setCell' _ _ _) (Kd.C_below HC1.out HB1.out), below_set HB1.out (Nat.le_refl _)⟩ ?_; rintro w2 ⟨hbx, hrow, hbel⟩; have HBX2 := Aside0.mk hbx; have HC2 := Aside0.mk hrow; have HB2 := Aside0.mk hbel; have hcell2 := hbx.cell; have hfr2 := hbx.frozen; clear hbx hrow hbel; go_step))
            refine (code_Read.calls k2 A1 c1 l1 _ _ _ _ HC2.out hr1 HK4.out).mono ?_
            rintro e w3 ⟨rfl, hb2⟩
            have HB3 := Aside0.mk (below_step HB2.out hb2)
            clear hb2
            go_wp2
            go_ret3
            exact ⟨_, rfl, Kd.R_nil _ _ _ _ _, HB3.out⟩
          · have c3 : decide ((64 : Int) < (qs : Int)) = false := decide_eq_false (by omega)
            obtain ⟨l2, hl2⟩ : ∃ l2, l2 = l1.drop qn := ⟨_, rfl⟩
            obtain ⟨A2, hA2⟩ : ∃ A2, A2 = (if c1 = qn then A1 else A1.map (·.add (qn * 1))) := ⟨_, rfl⟩
            obtain ⟨c2', hc2⟩ : ∃ c2', c2' = c1 - qn := ⟨_, rfl⟩
            have hl2n : l2.length = l1.length - qn := by rw [hl2, List.length_drop]
            have hr2 : l2.length ≤ c2' := by omega
            have HC2 : Aside0 (∀ W : World, Kd.C (Kd.int .u8) W A1 l1.length l1 → Kd.C (Kd.int .u8) W A2 l2.length l2) := ⟨fun W h => by rw [hA2, hl2]; exact Kd.C_drop h hql.2 hr1⟩
            have hcut2 : ∀ W : World, (Instr.slice 24 (.slice A1 l1.length c1) (some (.int .i64 (qn : Int))) none none).run Try.prog W = .ok (.slice A2 l2.length c2') W := fun W => by
              obtain ⟨i0, hi0, _, hsz0, _⟩ := info_parts info5
              have := cut_from (P := Try.prog) 24 5 .i64 Try.underlying24 hi0 1 hsz0 A1 l1.length c1 (qn : Int) (by omega) (by omega) W
              rw [Int.toNat_natCast, ← hl2n, ← hA2, ← hc2] at this
              exact this
            have HJ2 : Aside0 (readOps ps qs l2 = (r1, r2, r3)) := ⟨by rw [← HX.out, HJ.out, hq, hl2]; exact (if_neg hqs).symm⟩
            have HY2 : Aside0 (∀ x ∈ l2, 0 ≤ x ∧ x ≤ 255) := ⟨fun x hx => HY1.out x (List.mem_of_mem_drop (hl2 ▸ hx))⟩
            have hl2b : l2.length ≤ 16384 := by omega
            have hq64 : qs ≤ 64 := by omega
            have hp40 : ps ≤ 1099511627776 := by omega
            have p3 : decide (0 ≤ (qn : Int)) = true := decide_eq_true (by omega)
            have p4 : decide ((qn : Int) ≤ (l1.length : Int)) = true := decide_eq_true (by omega)
            have hmf : ∀ (fn : Fn) (first cap : Array Value) (W : World), (Instr.makeFunc fn first cap).run Try.prog W = .ok (.func fn first cap) W := fun _ _ _ _ => rfl
            clear hk4 hq HK2 HJ HBAD HX hql hqs hl2 hA2 hc2 hl2n hps
            go_enter Try.func17, Try.ntmps17
            go_wp2_with fail
            refine (code_Read.calls k1 A0 c0 l0 _ _ _ _ (Kd.C_alloc HR0.out _) hc0 HK.out).mono ?_
            rintro e w1 ⟨rfl, hb1⟩
            have HBX : Aside0 (Boxed w1 w.heap.size 24 (.slice A0 l0.length c0)) := ⟨HBX0 _ hb1⟩
            have HB1 := Aside0.mk (below_then (below_alloc (Below.refl _ _) _) (by simp) hb1)
            clear hb1 HBX0
            have hcell1 := Boxed.cell HBX.out
            have hfr1 := Boxed.frozen HBX.out
            go_wp2_with (first | ((with_reducible refine gate_dst (N := 32) rfl ?_); refine wl_gen (fun W => Boxed W w.heap.size 24 (.slice A1 l1.length c1) ∧ Kd.C (Kd.int .u8) W A1 l1.length l1 ∧ Below w.heap.size w W) ⟨Boxed.set _ HBX.out, C_grown HBX.out (by simp) (grownBy_setCell' _ _ _) (Kd.C_below HC1.out HB1.out), below_set HB1.out (Nat.le_refl _)⟩ ?_; rintro w2 ⟨hbx, hrow, hbel⟩; have HBX2 := Aside0.mk hbx; have HC2a := Aside0.mk hrow; have HB2 := Aside0.mk hbel; have hcell2 := hbx.cell; have hfr2 := hbx.frozen; clear hbx hrow hbel; go_step))
            refine (code_Read.calls k2 A1 c1 l1 _ _ _ _ HC2a.out hr1 HK4.out).mono ?_
            rintro e w3 ⟨rfl, hb2⟩
            have HB3 := Aside0.mk (below_step HB2.out hb2)
            have HBX3 : Aside0 (Boxed w3 w.heap.size 24 (.slice A1 l1.length c1)) := ⟨blk_below (show w2.heap[w.heap.size]? = _ from HBX2.out) hb2⟩
            have HC3 := Aside0.mk (HC2.out _ (Kd.C_below HC2a.out hb2))
            clear hb2 hcell2 hfr2 hcell1 hfr1 HBX2 HC2a HB2 HBX HB1 HC2 HC1
            have hcell3 := Boxed.cell HBX3.out
            have hfr3 := Boxed.frozen HBX3.out
            go_wp2_with fail
            have HRU : ∀ (d : Nat) (x : Int) (t : List Int) (acc : List OpT), opsFrom (d + 1) (x :: t) acc = (if 1 < x then none else if (cutS t).2.2 = 0 then (if x = 1 then opsFrom d (cutS t).2.1 (acc ++ [⟨(cutS t).1, true, ⟨#[]⟩⟩]) else if (cutS (cutS t).2.1).2.2 = 0 then opsFrom d (cutS (cutS t).2.1).2.1 (acc ++ [⟨(cutS t).1, false, (cutS (cutS t).2.1).1⟩]) else none) else none) := fun _ _ _ _ => rfl
            have HRU := Aside0.mk HRU
            have HBAD : Aside0 (opsFrom qs l2 [] = none → r1 = 0 ∧ r2 = [] ∧ r3 = 8) := ⟨fun e => by
              have h := HJ2.out
              unfold readOps at h
              rw [e] at h
              simp only [Prod.mk.injEq] at h
              exact ⟨h.1.symm, h.2.1.symm, h.2.2.symm⟩⟩
            go_loopw [10, 48] (fun v10 v48 w' => ∃ (j : Nat) (b : List Int) (ops : List OpT) (A : Option Addr) (c : Nat), v48 = .int .u64 (j : Int) ∧ j ≤ qs ∧ ops.length = j ∧ b.length ≤ c ∧ b.length ≤ 16384 ∧ Aside0 (opsFrom (qs - j) b ops = opsFrom qs l2 []) ∧ Aside0 (∀ x ∈ b, 0 ≤ x ∧ x ≤ 255) ∧ Aside0 (Boxed w' w.heap.size 24 (.slice A b.length c)) ∧ Aside0 (Kd.C (Kd.int .u8) w' A b.length b) ∧ Aside0 (Kd.R k49 49 w' w.heap.size (fun k => w.heap.size ≤ k ∧ k ≠ w.heap.size) v10 ops) ∧ Aside0 (Below w.heap.size w w') ∧ Aside0 (∀ ad, A = some ad → 0 < b.length → some ad.block ≠ v10.ownBlock)) (fun v10 v48 w' => qs - (match v48 with | .int _ j => j.toNat | _ => 0))
            case atStart => exact ⟨0, l2, [], A2, c2', rfl, Nat.zero_le _, rfl, hr2, hl2b, ⟨rfl⟩, HY2, ⟨Boxed.set _ HBX3.out⟩, ⟨C_grown HBX3.out (by simp) (grownBy_setCell' _ _ _) HC3.out⟩, ⟨Kd.R_nil _ _ _ _ _⟩, ⟨below_set HB3.out (Nat.le_refl _)⟩, ⟨fun _ _ _ => by simp [Value.ownBlock]⟩⟩
            case round =>
              obtain ⟨j, b, ops, A, c, rfl, hjq, hjl, hbc, hbl, HO, HYb, HBX, HC, HR, HB, HF⟩ := hrel
              clear HBX3 HC3 HB3 hcell3 hfr3 HK HK4 HY1 hcut1 hcut2 p1 p2 p3 p4 HR0 HY
              have hcell := Boxed.cell HBX.out
              have hfrz := Boxed.frozen HBX.out
              by_cases hj : j < qs
              · have hj1 : decide ((j : Int) < (qs : Int)) = true := decide_eq_true (by omega)
                obtain ⟨d, hd⟩ : ∃ d, qs - j = d + 1 := ⟨qs - j - 1, by omega⟩
                by_cases hz : b.length = 0
                · obtain ⟨rfl, rfl, rfl⟩ := HBAD.out (by rw [← HO.out, hd, List.eq_nil_of_length_eq_zero hz]; rfl)
                  have hz1 : ((b.length : Int) == 0) = true := by rw [hz]; rfl
                  clear hd hz
                  go_wp2
                  go_ret3
                  exact ⟨_, rfl, Kd.R_nil _ _ _ _ _, HB.out⟩
                · have hz1 : ((b.length : Int) == 0) = false := beq_eq_false_iff_ne.mpr (by omega)
                  obtain ⟨x, t, hxt⟩ : ∃ x t, b = x :: t := by
                    cases b with
                    | nil => exact absurd rfl hz
                    | cons x t => exact ⟨x, t, rfl⟩
                  have p312 : 0 ≤ (0 : Int) := by omega
                  have q312 : 0 < (b.length : Int) := by omega
                  obtain ⟨ad312, e312, hx312_0⟩ := Kd.at_int HC.out 0 p312 q312
                  subst e312
                  have qi312 : (0 < b.length) = True := eq_true (by omega)
                  (try rw [show ((0 : Int)).toNat = 0 from rfl] at hx312_0)
                  (try rw [Addr.add_zero'] at hx312_0)
                  rw [show rd b 0 = x by rw [hxt]; rfl] at hx312_0
                  have hxy : 0 ≤ x ∧ x ≤ 255 := HYb.out x (by rw [hxt]; exact List.mem_cons_self ..)
                  have q3b : decide (0 < (b.length : Int)) = true := decide_eq_true q312
                  replace p312 := eq_true p312
                  replace q312 := eq_true q312
                  by_cases hx1 : 1 < x
                  · obtain ⟨rfl, rfl, rfl⟩ := HBAD.out (by rw [← HO.out, hd, hxt, HRU.out]; exact if_pos hx1)
                    have hx2 : decide (1 < x) = true := decide_eq_true hx1
                    clear hd hz hx1 hxt hxy
                    go_wp2
                    go_ret3
                    exact ⟨_, rfl, Kd.R_nil _ _ _ _ _, HB.out⟩
                  · have hx2 : decide (1 < x) = false := decide_eq_false hx1
                    have htl : t.length + 1 = b.length := by rw [hxt]; rfl
                    obtain ⟨A3, hA3⟩ : ∃ A3, A3 = (if c = 1 then (some ad312 : Option Addr) else (some ad312 : Option Addr).map (·.add (1 * 1))) := ⟨_, rfl⟩
                    obtain ⟨c3', hc3⟩ : ∃ c3', c3' = c - 1 := ⟨_, rfl⟩
                    have hr3 : t.length ≤ c3' := by omega
                    have HC3 : Aside0 (∀ W : World, Kd.C (Kd.int .u8) W (some ad312) b.length b → Kd.C (Kd.int .u8) W A3 t.length t) := ⟨fun W h => by
                      have := Kd.C_drop (m := 1) h (by omega) hbc
                      rw [show b.drop 1 = t by rw [hxt]; rfl] at this
                      rw [hA3]
                      exact this⟩
                    have HF3 : Aside0 (∀ ad, A3 = some ad → 0 < t.length → some ad.block ≠ u10.ownBlock) := ⟨fun ad e _ => by
                      have h1 := HF.out ad312 rfl (by omega)
                      have : ad.block = ad312.block := by
                        rw [hA3] at e
                        split at e
                        · cases e; rfl
                        · cases e; unfold Addr.add; split <;> rfl
                      rwa [this]⟩
                    have hcut3 : ∀ W : World, (Instr.slice 24 (.slice (some ad312) b.length c) (some (.int .i64 1)) none none).run Try.prog W = .ok (.slice A3 t.length c3') W := fun W => by
                      obtain ⟨i0, hi0, _, hsz0, _⟩ := info_parts info5
                      have := cut_from (P := Try.prog) 24 5 .i64 Try.underlying24 hi0 1 hsz0 (some ad312) b.length c 1 (by omega) (by omega) W
                      rw [show (1 : Int).toNat = 1 from rfl, show b.length - 1 = t.length by omega, ← hA3, ← hc3] at this
                      exact this
                    have p1b : decide ((1 : Int) ≤ (b.length : Int)) = true := decide_eq_true (by omega)
                    have HYt : Aside0 (∀ y ∈ t, 0 ≤ y ∧ y ≤ 255) := ⟨fun y hy => HYb.out y (by rw [hxt]; exact List.mem_cons_of_mem _ hy)⟩
                    have HYc : Aside0 (∀ y ∈ (cutS t).2.1, 0 ≤ y ∧ y ≤ 255) := ⟨fun y hy => HYt.out y (cutS_mem t y hy)⟩
                    have hcl := cutS_len t
                    have hcl2 := cutS_len (cutS t).2.1
                    have htb : t.length ≤ 140737488351232 := by omega
                    have HOJ := Aside0.mk (show opsFrom (d + 1) (x :: t) ops = opsFrom qs l2 [] by rw [← HO.out, hd, hxt])
                    by_cases hx1' : x = 1
                    · have hx3 : (x == 1) = true := beq_iff_eq.mpr hx1'
                      clear HO hxt hA3 hc3
                      go_wp2_with (first
                        | ((with_reducible refine gate_dst (N := 11) rfl ?_); refine box_event ?hg (N := 11) ?hd (cs := #[.string (⟨#[]⟩ : ByteArray), .bool false, .string (⟨#[]⟩ : ByteArray)]) (t := 49) ?hr ?_; (case hd => rfl); (case hg => rfl); (case hr => first | (go_simp; done) | (go_simp; rfl)); intro gb hg w1 hbox hb; subst hg; have hcz0 : w1.cell? ⟨wr.heap.size, 0, none⟩ = some (.string (⟨#[]⟩ : ByteArray)) := (blk_cell hbox 0).trans rfl; have hcz1 : w1.cell? ⟨wr.heap.size, 1, none⟩ = some (.bool false) := (blk_cell hbox 1).trans rfl; have hcz2 : w1.cell? ⟨wr.heap.size, 2, none⟩ = some (.string (⟨#[]⟩ : ByteArray)) := (blk_cell hbox 2).trans rfl; have hfz0 := blk_frozen hbox 0; have hfz1 := blk_frozen hbox 1; have hfz2 := blk_frozen hbox 2; have HW1 := Aside0.mk hb; have HK1 := Aside0.mk hbox; clear hb hbox)
                        | ((with_reducible refine gate_dst (N := 64) rfl ?_); refine wl_gen (St w w.heap.size wr.heap.size u10 ops b ⟨#[]⟩ true ⟨#[]⟩ (some ad312) c) (St.new HBX.out HC.out HR.out HB.out (Nat.le_refl _) HF.out (below_set (below_set (below_set HW1.out (Nat.le_refl _)) (Nat.le_refl _)) (Nat.le_refl _)) (blk_put (blk_put (blk_put HK1.out 0 _ rfl) 1 _ rfl) 2 _ rfl)) ?_; intro w2 hst; have HS2 := Aside0.mk hst; clear hst; have hcell2 := Boxed.cell HS2.out.box; have hfr2 := Boxed.frozen HS2.out.box; go_step)
                        )
                      have HS3 := Aside0.mk (St.setBox (c2 := c3') HS2.out (HC3.out _ HS2.out.row) HF3.out)
                      refine (text_calls w.heap.size A3 c3' t _ HS3.out.box HS3.out.row hr3 htb HYt.out).mono ?_
                      rintro e w4 ⟨A4, c4, rfl, hbx4, hC4, hr4, hg4, hf4⟩
                      have HS4 := Aside0.mk (St.call HS3.out hbx4 hC4 hg4 hf4)
                      clear hbx4 hC4 hg4 hf4 HS3 hcell2 hfr2 HS2 HC3 HF3 HB HR HC HBX HF hcell hfrz HYb hx312_0
                      have hcell4 := Boxed.cell HS4.out.box
                      have hfr4 := Boxed.frozen HS4.out.box
                      have hfb4_0 := blk_frozen HS4.out.blk 0
                      have hcb4_0 : w4.cell? ⟨wr.heap.size, 0, none⟩ = some (.string (⟨#[]⟩ : ByteArray)) := (blk_cell HS4.out.blk 0).trans rfl
                      by_cases he1 : (cutS t).2.2 = 0
                      · have he2 : ((cutS t).2.2 == 0) = true := beq_iff_eq.mpr he1
                        have HO5 : Aside0 (opsFrom d (cutS t).2.1 (ops ++ [⟨(cutS t).1, true, ⟨#[]⟩⟩]) = opsFrom qs l2 []) := ⟨by
                          have h := HOJ.out
                          rw [HRU.out, if_neg (by omega), if_pos he1, if_pos hx1'] at h
                          exact h⟩
                        go_wp2_with (first
                          | ((with_reducible refine gate_dst (N := 75) rfl ?_); refine wl_gen (St w w.heap.size wr.heap.size u10 ops (cutS t).2.1 (cutS t).1 true ⟨#[]⟩ A4 c4) (St.set0 HS4.out _) ?_; intro w5 hst; have HS5 := Aside0.mk hst; clear hst; have hcell5 := Boxed.cell HS5.out.box; have hfr5 := Boxed.frozen HS5.out.box; have hcb5_0 : w5.cell? ⟨wr.heap.size, 0, none⟩ = some (.string (cutS t).1) := (blk_cell HS5.out.blk 0).trans rfl; have hcb5_1 : w5.cell? ⟨wr.heap.size, 1, none⟩ = some (.bool true) := (blk_cell HS5.out.blk 1).trans rfl; have hcb5_2 : w5.cell? ⟨wr.heap.size, 2, none⟩ = some (.string (⟨#[]⟩ : ByteArray)) := (blk_cell HS5.out.blk 2).trans rfl; go_step)
                          | ((with_reducible refine gate_builtin (b := .append) (xs := #[.tmp 85, .tmp 87]) rfl ?_); at_builtin; refine Kd.R_append k49 (w0 := w) w.heap.size rfl (.tmp 85) (.tmp 87) 22 49 (.agg #[(.string ⟨#[]⟩), (.bool false), (.string ⟨#[]⟩)]) 40 rfl Try.underlying22 info49 rfl (by decide) (by omega) u10 ops (⟨(cutS t).1, true, ⟨#[]⟩⟩ : OpT) [.string (cutS t).1, .bool true, .string ⟨#[]⟩] (fun k => (w.heap.size ≤ k ∧ k ≠ w.heap.size) ∧ k ≠ wr.heap.size) (fun _ => False) rfl (by first | (go_simp; done) | (go_simp; rfl)) ?aP (fun _ hk => hk.elim) ?aF ?aO ?aB ?aS ?aL ?_; (case aP => exact k49_mkM _ _ _ (⟨(cutS t).1, true, ⟨#[]⟩⟩ : OpT)); (case aF => exact fun k hk => ⟨⟨by have := HS5.out.box.lt; omega, by have := HS5.out.box.lt; omega⟩, by have := blk_lt HS5.out.blk; omega⟩); (case aO => exact HS5.out.own); (case aB => exact HS5.out.bel); (case aS => exact below_size HS5.out.bel); (case aL => omega); intro v6 w6 ho hb hg hat; have HA6 := Aside0.mk (St.app HS5.out ho hg hat); have HB6 := Aside0.mk hb; clear ho hb hg hat HS5 HS4 hcell5 hfr5 hcell4 hfr4 hcb5_0 hcb5_1 hcb5_2 hfb4_0 hcb4_0))
                        obtain ⟨hb1, hb2, hb3, hb4⟩ := HA6.out
                        refine ⟨⟨j + 1, (cutS t).2.1, ops ++ [⟨(cutS t).1, true, ⟨#[]⟩⟩], A4, c4, by simp, by omega, by rw [List.length_append, hjl]; rfl, hr4, by omega, ⟨by rw [show qs - (j + 1) = d by omega]; exact HO5.out⟩, HYc, ⟨hb1⟩, ⟨hb2⟩, ⟨hb3⟩, HB6, ⟨hb4⟩⟩, ?_⟩
                        show qs - ((j : Int) + 1).toNat < qs - ((j : Int)).toNat
                        omega
                      · have he2 : ((cutS t).2.2 == 0) = false := beq_eq_false_iff_ne.mpr he1
                        obtain ⟨rfl, rfl, rfl⟩ := HBAD.out (by rw [← HOJ.out, HRU.out, if_neg (by omega), if_neg he1])
                        go_wp2
                        go_ret3
                        exact ⟨_, rfl, Kd.R_nil _ _ _ _ _, (St.set0 HS4.out _).bel⟩
                    · have hx3 : (x == 1) = false := beq_eq_false_iff_ne.mpr hx1'
                      clear HO hxt hA3 hc3
                      go_wp2_with (first
                        | ((with_reducible refine gate_dst (N := 11) rfl ?_); refine box_event ?hg (N := 11) ?hd (cs := #[.string (⟨#[]⟩ : ByteArray), .bool false, .string (⟨#[]⟩ : ByteArray)]) (t := 49) ?hr ?_; (case hd => rfl); (case hg => rfl); (case hr => first | (go_simp; done) | (go_simp; rfl)); intro gb hg w1 hbox hb; subst hg; have hcz0 : w1.cell? ⟨wr.heap.size, 0, none⟩ = some (.string (⟨#[]⟩ : ByteArray)) := (blk_cell hbox 0).trans rfl; have hcz1 : w1.cell? ⟨wr.heap.size, 1, none⟩ = some (.bool false) := (blk_cell hbox 1).trans rfl; have hcz2 : w1.cell? ⟨wr.heap.size, 2, none⟩ = some (.string (⟨#[]⟩ : ByteArray)) := (blk_cell hbox 2).trans rfl; have hfz0 := blk_frozen hbox 0; have hfz1 := blk_frozen hbox 1; have hfz2 := blk_frozen hbox 2; have HW1 := Aside0.mk hb; have HK1 := Aside0.mk hbox; clear hb hbox)
                        | ((with_reducible refine gate_dst (N := 64) rfl ?_); refine wl_gen (St w w.heap.size wr.heap.size u10 ops b ⟨#[]⟩ false ⟨#[]⟩ (some ad312) c) (St.new HBX.out HC.out HR.out HB.out (Nat.le_refl _) HF.out (below_set (below_set (below_set HW1.out (Nat.le_refl _)) (Nat.le_refl _)) (Nat.le_refl _)) (blk_put (blk_put (blk_put HK1.out 0 _ rfl) 1 _ rfl) 2 _ rfl)) ?_; intro w2 hst; have HS2 := Aside0.mk hst; clear hst; have hcell2 := Boxed.cell HS2.out.box; have hfr2 := Boxed.frozen HS2.out.box; go_step)
                        )
                      have HS3 := Aside0.mk (St.setBox (c2 := c3') HS2.out (HC3.out _ HS2.out.row) HF3.out)
                      refine (text_calls w.heap.size A3 c3' t _ HS3.out.box HS3.out.row hr3 htb HYt.out).mono ?_
                      rintro e w4 ⟨A4, c4, rfl, hbx4, hC4, hr4, hg4, hf4⟩
                      have HS4 := Aside0.mk (St.call HS3.out hbx4 hC4 hg4 hf4)
                      clear hbx4 hC4 hg4 hf4 HS3 hcell2 hfr2 HS2 HC3 HF3 HB HR HC HBX HF hcell hfrz HYb hx312_0
                      have hcell4 := Boxed.cell HS4.out.box
                      have hfr4 := Boxed.frozen HS4.out.box
                      have hfb4_0 := blk_frozen HS4.out.blk 0
                      have hcb4_0 : w4.cell? ⟨wr.heap.size, 0, none⟩ = some (.string (⟨#[]⟩ : ByteArray)) := (blk_cell HS4.out.blk 0).trans rfl
                      by_cases he1 : (cutS t).2.2 = 0
                      · have he2 : ((cutS t).2.2 == 0) = true := beq_iff_eq.mpr he1
                        go_wp2_with (first
                          | ((with_reducible refine gate_dst (N := 75) rfl ?_); refine wl_gen (St w w.heap.size wr.heap.size u10 ops (cutS t).2.1 (cutS t).1 false ⟨#[]⟩ A4 c4) (St.set0 HS4.out _) ?_; intro w5 hst; have HS5 := Aside0.mk hst; clear hst; have hcell5 := Boxed.cell HS5.out.box; have hfr5 := Boxed.frozen HS5.out.box; have hcb5_1 : w5.cell? ⟨wr.heap.size, 1, none⟩ = some (.bool false) := (blk_cell HS5.out.blk 1).trans rfl; go_step))
                        refine (text_calls w.heap.size A4 c4 (cutS t).2.1 _ HS5.out.box HS5.out.row hr4 (by omega) HYc.out).mono ?_
                        rintro e w7 ⟨A7, c7, rfl, hbx7, hC7, hr7, hg7, hf7⟩
                        have HS7 := Aside0.mk (St.call HS5.out hbx7 hC7 hg7 hf7)
                        clear hbx7 hC7 hg7 hf7 HS5 HS4 hcell5 hfr5 hcb5_1 hcell4 hfr4 hfb4_0 hcb4_0
                        have hcell7 := Boxed.cell HS7.out.box
                        have hfr7 := Boxed.frozen HS7.out.box
                        have hfb7_2 := blk_frozen HS7.out.blk 2
                        have hcb7_2 : w7.cell? ⟨wr.heap.size, 2, none⟩ = some (.string (⟨#[]⟩ : ByteArray)) := (blk_cell HS7.out.blk 2).trans rfl
                        by_cases he3 : (cutS (cutS t).2.1).2.2 = 0
                        · have he4 : ((cutS (cutS t).2.1).2.2 == 0) = true := beq_iff_eq.mpr he3
                          have HO5 : Aside0 (opsFrom d (cutS (cutS t).2.1).2.1 (ops ++ [⟨(cutS t).1, false, (cutS (cutS t).2.1).1⟩]) = opsFrom qs l2 []) := ⟨by
                            have h := HOJ.out
                            rw [HRU.out, if_neg (by omega), if_pos he1, if_neg hx1', if_pos he3] at h
                            exact h⟩
                          have HYd : Aside0 (∀ y ∈ (cutS (cutS t).2.1).2.1, 0 ≤ y ∧ y ≤ 255) := ⟨fun y hy => HYc.out y (cutS_mem _ y hy)⟩
                          go_wp2_with (first
                            | ((with_reducible refine gate_dst (N := 86) rfl ?_); refine wl_gen (St w w.heap.size wr.heap.size u10 ops (cutS (cutS t).2.1).2.1 (cutS t).1 false (cutS (cutS t).2.1).1 A7 c7) (St.set2 HS7.out _) ?_; intro w5 hst; have HS5 := Aside0.mk hst; clear hst; have hcell5 := Boxed.cell HS5.out.box; have hfr5 := Boxed.frozen HS5.out.box; have hcb5_0 : w5.cell? ⟨wr.heap.size, 0, none⟩ = some (.string (cutS t).1) := (blk_cell HS5.out.blk 0).trans rfl; have hcb5_1 : w5.cell? ⟨wr.heap.size, 1, none⟩ = some (.bool false) := (blk_cell HS5.out.blk 1).trans rfl; have hcb5_2 : w5.cell? ⟨wr.heap.size, 2, none⟩ = some (.string (cutS (cutS t).2.1).1) := (blk_cell HS5.out.blk 2).trans rfl; go_step)
                            | ((with_reducible refine gate_builtin (b := .append) (xs := #[.tmp 85, .tmp 87]) rfl ?_); at_builtin; refine Kd.R_append k49 (w0 := w) w.heap.size rfl (.tmp 85) (.tmp 87) 22 49 (.agg #[(.string ⟨#[]⟩), (.bool false), (.string ⟨#[]⟩)]) 40 rfl Try.underlying22 info49 rfl (by decide) (by omega) u10 ops (⟨(cutS t).1, false, (cutS (cutS t).2.1).1⟩ : OpT) [.string (cutS t).1, .bool false, .string (cutS (cutS t).2.1).1] (fun k => (w.heap.size ≤ k ∧ k ≠ w.heap.size) ∧ k ≠ wr.heap.size) (fun _ => False) rfl (by first | (go_simp; done) | (go_simp; rfl)) ?aP (fun _ hk => hk.elim) ?aF ?aO ?aB ?aS ?aL ?_; (case aP => exact k49_mkM _ _ _ (⟨(cutS t).1, false, (cutS (cutS t).2.1).1⟩ : OpT)); (case aF => exact fun k hk => ⟨⟨by have := HS5.out.box.lt; omega, by have := HS5.out.box.lt; omega⟩, by have := blk_lt HS5.out.blk; omega⟩); (case aO => exact HS5.out.own); (case aB => exact HS5.out.bel); (case aS => exact below_size HS5.out.bel); (case aL => omega); intro v6 w6 ho hb hg hat; have HA6 := Aside0.mk (St.app HS5.out ho hg hat); have HB6 := Aside0.mk hb; clear ho hb hg hat HS5 HS7 hcell5 hfr5 hcell7 hfr7 hcb5_0 hcb5_1 hcb5_2 hfb7_2 hcb7_2))
                          obtain ⟨hb1, hb2, hb3, hb4⟩ := HA6.out
                          refine ⟨⟨j + 1, (cutS (cutS t).2.1).2.1, ops ++ [⟨(cutS t).1, false, (cutS (cutS t).2.1).1⟩], A7, c7, by simp, by omega, by rw [List.length_append, hjl]; rfl, hr7, by omega, ⟨by rw [show qs - (j + 1) = d by omega]; exact HO5.out⟩, HYd, ⟨hb1⟩, ⟨hb2⟩, ⟨hb3⟩, HB6, ⟨hb4⟩⟩, ?_⟩
                          show qs - ((j : Int) + 1).toNat < qs - ((j : Int)).toNat
                          omega
                        · have he4 : ((cutS (cutS t).2.1).2.2 == 0) = false := beq_eq_false_iff_ne.mpr he3
                          obtain ⟨rfl, rfl, rfl⟩ := HBAD.out (by rw [← HOJ.out, HRU.out, if_neg (by omega), if_pos he1, if_neg hx1', if_neg he3])
                          go_wp2
                          go_ret3
                          exact ⟨_, rfl, Kd.R_nil _ _ _ _ _, (St.set2 HS7.out _).bel⟩
                      · have he2 : ((cutS t).2.2 == 0) = false := beq_eq_false_iff_ne.mpr he1
                        obtain ⟨rfl, rfl, rfl⟩ := HBAD.out (by rw [← HOJ.out, HRU.out, if_neg (by omega), if_neg he1])
                        go_wp2
                        go_ret3
                        exact ⟨_, rfl, Kd.R_nil _ _ _ _ _, (St.set0 HS4.out _).bel⟩
              · have hj1 : decide ((j : Int) < (qs : Int)) = false := decide_eq_false (by omega)
                have hd : qs - j = 0 := by omega
                have HO2 : Aside0 (opsFrom qs l2 [] = some (ops, b)) := ⟨by rw [← HO.out, hd]; rfl⟩
                subst hjl
                obtain ⟨Ao, co, ev, hoc, hrd⟩ := Kd.R_reads HR.out
                subst ev
                have HRD := Aside0.mk hrd
                by_cases hbz : b.length = 0
                · have hb1 : decide ((0 : Int) < (b.length : Int)) = false := decide_eq_false (by omega)
                  obtain ⟨k5, hk5⟩ := (batch_asked_ev (ps : Int) ops (by omega)).rounds
                  have HK5 := Aside0.mk hk5
                  by_cases ha : askedS (ps : Int) ops = 0
                  · have ha1 : (askedS (ps : Int) ops != 0) = false := bne_eq_false_iff_eq.mpr ha
                    have e : r1 = (ps : Int) ∧ r2 = ops ∧ r3 = 0 := by
                      have h := HJ2.out
                      unfold readOps at h
                      rw [HO2.out] at h
                      dsimp only at h
                      rw [if_pos ⟨hbz, ha⟩] at h
                      simp only [Prod.mk.injEq] at h
                      exact ⟨h.1.symm, h.2.1.symm, h.2.2.symm⟩
                    obtain ⟨rfl, rfl, rfl⟩ := e
                    clear hk5 HO2 HO hrd
                    go_wp2_with fail
                    refine (batch_asked.calls k5 _ _ _ _ _ _ HRD.out hoc HK5.out).mono ?_
                    rintro e w9 ⟨rfl, hb9⟩
                    have HR9 := Aside0.mk (Kd.R_below (Kd.R_mono HR.out (fun k hk => hk.1)) hb9)
                    have HB9 := Aside0.mk (below_step HB.out hb9)
                    clear hb9
                    go_wp2
                    go_ret3
                    exact ⟨_, rfl, Kd.R_mono HR9.out (fun _ _ => trivial), HB9.out⟩
                  · have ha1 : (askedS (ps : Int) ops != 0) = true := bne_iff_ne.mpr ha
                    have e : r1 = 0 ∧ r2 = [] ∧ r3 = 8 := by
                      have h := HJ2.out
                      unfold readOps at h
                      rw [HO2.out] at h
                      dsimp only at h
                      rw [if_neg (fun h => ha h.2)] at h
                      simp only [Prod.mk.injEq] at h
                      exact ⟨h.1.symm, h.2.1.symm, h.2.2.symm⟩
                    obtain ⟨rfl, rfl, rfl⟩ := e
                    clear hk5 HO2 HO hrd
                    go_wp2_with fail
                    refine (batch_asked.calls k5 _ _ _ _ _ _ HRD.out hoc HK5.out).mono ?_
                    rintro e w9 ⟨rfl, hb9⟩
                    have HB9 := Aside0.mk (below_step HB.out hb9)
                    clear hb9
                    go_wp2
                    go_ret3
                    exact ⟨_, rfl, Kd.R_nil _ _ _ _ _, HB9.out⟩
                · have hb1 : decide ((0 : Int) < (b.length : Int)) = true := decide_eq_true (by omega)
                  have e : r1 = 0 ∧ r2 = [] ∧ r3 = 8 := by
                    have h := HJ2.out
                    unfold readOps at h
                    rw [HO2.out] at h
                    dsimp only at h
                    rw [if_neg (fun h => hbz h.1)] at h
                    simp only [Prod.mk.injEq] at h
                    exact ⟨h.1.symm, h.2.1.symm, h.2.2.symm⟩
                  obtain ⟨rfl, rfl, rfl⟩ := e
                  clear HO2 HO hrd
                  go_wp2
                  go_ret3
                  exact ⟨_, rfl, Kd.R_nil _ _ _ _ _, HB.out⟩


/-! ### millhandlaw10_two: function 20 -/
def millhandlaw10_two.f  : Option ((List (S49))) := some (([(⟨(⟨#[97]⟩ : ByteArray), false, (⟨#[120, 121]⟩ : ByteArray)⟩ : S49), (⟨(⟨#[98]⟩ : ByteArray), true, (⟨#[]⟩ : ByteArray)⟩ : S49)] : List (S49)))
set_option maxHeartbeats 8000000 in
set_option maxRecDepth 100000 in
theorem millhandlaw10_two.calls  (r : List (S49)) (w : World) (h : millhandlaw10_two.f  = some r) :
    Calls Try.prog 20 #[] w fun e w' => ∃ v0_ : Value, e = .returned (v0_) ∧ Kd.R k49 49 w' w.heap.size (fun _ => True) v0_ r ∧ Below w.heap.size w w' := by
  have hu49 := Try.underlying49
  have HB := Aside0.mk (Below.refl w.heap.size w)
  have H : (some (([(⟨(⟨#[97]⟩ : ByteArray), false, (⟨#[120, 121]⟩ : ByteArray)⟩ : S49), (⟨(⟨#[98]⟩ : ByteArray), true, (⟨#[]⟩ : ByteArray)⟩ : S49)] : List (S49)))) = some r := h
  clear h
  obtain ⟨y173, hy173⟩ : ∃ y_ : List (S49), y_ = (([(⟨(⟨#[97]⟩ : ByteArray), false, (⟨#[120, 121]⟩ : ByteArray)⟩ : S49), (⟨(⟨#[98]⟩ : ByteArray), true, (⟨#[]⟩ : ByteArray)⟩ : S49)] : List (S49))) := ⟨_, rfl⟩
  replace H : (some y173) = some r := by first | (rw [hy173]; with_reducible exact H) | (have H2_ := (Option.bind_some _ _).symm.trans H; rw [hy173]; with_reducible exact H2_) | (have H2_ := (Option.bind_some _ _).symm.trans H; with_reducible exact H2_) | with_reducible exact H | (rw [hy173]; exact H) | exact H
  have Ny173 := Aside0.mk hy173
  clear hy173
  obtain rfl := Option.some.inj H
  go_enter Try.func20, Try.ntmps20
  go_wp2_with (first | ((with_reducible refine gate_dst (N := 3) rfl ?_); refine Kd.R_lit k49 _ 49 ?hg (N := 3) ?hd (xs := ([(⟨(⟨#[97]⟩ : ByteArray), false, (⟨#[120, 121]⟩ : ByteArray)⟩ : S49), (⟨(⟨#[98]⟩ : ByteArray), true, (⟨#[]⟩ : ByteArray)⟩ : S49)] : List (S49))) (inner := [.string (⟨#[97]⟩ : ByteArray), .bool false, .string (⟨#[120, 121]⟩ : ByteArray), .string (⟨#[98]⟩ : ByteArray), .bool true, .string (⟨#[]⟩ : ByteArray)]) (ok := fun _ => True) (okp := fun _ => True) ?hr ?hp (fun _ hk => hk) trivial (Below.refl _ _) (Nat.le_refl _) (by simp) ?_; (case hd => rfl); (case hg => rfl); (case hr => first | (go_simp; done) | (go_simp; rfl)); (case hp => exact (Reps.c3 (show Kd.M k49 _ _ _ (⟨(⟨#[97]⟩ : ByteArray), false, (⟨#[120, 121]⟩ : ByteArray)⟩ : S49) [.string (⟨#[97]⟩ : ByteArray), .bool false, .string (⟨#[120, 121]⟩ : ByteArray)] from (k49_mkM _ _ _ (⟨(⟨#[97]⟩ : ByteArray), false, (⟨#[120, 121]⟩ : ByteArray)⟩ : S49) )) (Reps.c3 (show Kd.M k49 _ _ _ (⟨(⟨#[98]⟩ : ByteArray), true, (⟨#[]⟩ : ByteArray)⟩ : S49) [.string (⟨#[98]⟩ : ByteArray), .bool true, .string (⟨#[]⟩ : ByteArray)] from (k49_mkM _ _ _ (⟨(⟨#[98]⟩ : ByteArray), true, (⟨#[]⟩ : ByteArray)⟩ : S49) )) (Reps.none _ _)))); intro v174 w1 ho2 hb hg_ hnew_; clear hg_ hnew_; (first | rw [← Ny173.out] at ho2 | (simp only [Int.reduceToNat] at ho2; rw [← Ny173.out] at ho2)); have n0_ := Aside0.mk (Kd.R_lower ho2 (below_size (by repeat (first | (with_reducible first | exact HB.out | apply below_alloc | apply pw_below_drewN | apply below_drew1) | exact HB.out)))); have n1_ := Aside0.mk (below_step (by repeat (first | (with_reducible first | exact HB.out | apply below_alloc | apply pw_below_drewN | apply below_drew1) | exact HB.out)) hb); clear HB; have HO175 := n0_; have HB := n1_; clear n0_ n1_; clear hb ho2))
  go_ret
  exact ⟨_, by first | rfl | (simp [errW_none, errW_some] <;> rfl) | (simp [*, errW_none, errW_some] <;> rfl) | exact ret_ie _ | (simp [*, errW_none, errW_some, bne]; done), by (with_reducible repeat (first | apply Kd.R_alloc | apply Kd.R_drewN | apply Kd.R_drew)); exact HO175.out, by repeat (first | (with_reducible first | exact HB.out | apply below_alloc | apply pw_below_drewN | apply below_drew1) | exact HB.out)⟩

/-! ### millhandlaw10_alive: function 19 -/
def millhandlaw10_alive.f (k : Nat)  : Option (Bool) := (millhandlaw10_two.f).bind fun t176 => ((batch_Write.f k 300 t176).bind fun bt179 => (if bt179.2 = 0 then (some ((strOfNums bt179.1).toList == (strOfNums (([172, 2, 2, 0, 1, 97, 2, 120, 121, 1, 1, 98] : List Int))).toList)) else (some false)))
theorem millhandlaw10_alive.mono : ∀ k, LeO (millhandlaw10_alive.f k ) (millhandlaw10_alive.f (k + 1) ) := by
  intro  k
  unfold millhandlaw10_alive.f
  repeat' first
      | (with_reducible exact batch_Write.mono _ _ _)
      | (with_reducible exact LeO.refl _)
      | (with_reducible exact LeO.none _)
      | (with_reducible refine LeO.ite ?_ ?_)
      | (with_reducible refine LeO.bind ?_ (fun _ => ?_))
      | exact batch_Write.mono _ _ _
      | exact LeO.none _
      | refine LeO.ite ?_ ?_
      | refine LeO.bind ?_ (fun _ => ?_)
set_option maxHeartbeats 8000000 in
set_option maxRecDepth 100000 in
theorem millhandlaw10_alive.calls (k : Nat)  (r : Bool) (w : World) (h : millhandlaw10_alive.f k  = some r) :
    Calls Try.prog 19 #[] w fun e w' => e = .returned (.bool r) ∧ Below w.heap.size w w' := by
  have HB := Aside0.mk (Below.refl w.heap.size w)
  have H : ((millhandlaw10_two.f).bind fun t176 => ((batch_Write.f k 300 t176).bind fun bt179 => (if bt179.2 = 0 then (some ((strOfNums bt179.1).toList == (strOfNums (([172, 2, 2, 0, 1, 97, 2, 120, 121, 1, 1, 98] : List Int))).toList)) else (some false)))) = some r := h
  clear h
  replace H := Option.bind_eq_some_iff.mp H
  obtain ⟨t176, A10, H⟩ := H
  replace H : ((batch_Write.f k 300 t176).bind fun bt179 => (if bt179.2 = 0 then (some ((strOfNums bt179.1).toList == (strOfNums (([172, 2, 2, 0, 1, 97, 2, 120, 121, 1, 1, 98] : List Int))).toList)) else (some false))) = some r := H
  have A1 := Aside0.mk A10
  clear A10
  replace H := Option.bind_eq_some_iff.mp H
  obtain ⟨⟨t179, t180⟩, A20, H⟩ := H
  replace H : (if t180 = 0 then (some ((strOfNums t179).toList == (strOfNums (([172, 2, 2, 0, 1, 97, 2, 120, 121, 1, 1, 98] : List Int))).toList)) else (some false)) = some r := H
  have A2 := Aside0.mk A20
  clear A20
  by_cases c3 : t180 = 0
  · rw [if_pos c3] at H
    have c3b0 : (t180 == 0) = true := beq_iff_eq.mpr c3
    have c3b1 : (t180 != 0) = false := bne_eq_false_iff_eq.mpr c3
    clear c3
    obtain ⟨y183, hy183⟩ : ∃ y_ : List Int, y_ = (([172, 2, 2, 0, 1, 97, 2, 120, 121, 1, 1, 98] : List Int)) := ⟨_, rfl⟩
    replace H : (some ((strOfNums t179).toList == (strOfNums y183).toList)) = some r := by first | (rw [hy183]; with_reducible exact H) | (have H2_ := (Option.bind_some _ _).symm.trans H; rw [hy183]; with_reducible exact H2_) | (have H2_ := (Option.bind_some _ _).symm.trans H; with_reducible exact H2_) | with_reducible exact H | (rw [hy183]; exact H) | exact H
    have Ny183 := Aside0.mk hy183
    clear hy183
    obtain rfl := Option.some.inj H
    go_enter Try.func19, Try.ntmps19
    go_wp2_with (first | ((with_reducible refine gate_callee (f := 20) rfl ?_); refine goesL_ (some 4) rfl rfl Try.func20 (by kernel_rfl) rfl #[] rfl (by (try simp only [List.map_toArray, List.map_cons, List.map_nil]); first | done | rfl | (simp only [List.length_drop, List.length_take]; rfl)) ?_; (with_reducible refine (millhandlaw10_two.calls  t176 _ A1.out).mono ?_); rintro e w4 ⟨v177, rfl, ho0, hb⟩; refine ⟨_, rfl, ?_⟩; have n0_ := Aside0.mk (Kd.R_lower ho0 (below_size (by repeat (first | (with_reducible first | exact HB.out | apply below_alloc | apply pw_below_drewN | apply below_drew1) | exact HB.out)))); have n1_ := Aside0.mk (below_step (by repeat (first | (with_reducible first | exact HB.out | apply below_alloc | apply pw_below_drewN | apply below_drew1) | exact HB.out)) hb); clear HB; have HO178 := n0_; have HB := n1_; clear n0_ n1_; (try clear hb); (try clear hb2); (try clear hk); (try clear hi); (try clear ho0); obtain ⟨Ao5, co5, eo5⟩ := Kd.R_slice HO178.out; subst eo5) | ((with_reducible refine gate_callee (f := 9) rfl ?_); refine goesL_ (some 5) rfl rfl Try.func9 (by kernel_rfl) rfl #[.int .i64 300, .slice Ao5 t176.length co5] rfl (by (try simp only [List.map_toArray, List.map_cons, List.map_nil]); first | done | rfl | (simp only [List.length_drop, List.length_take]; rfl)) ?_; (with_reducible refine (batch_Write.calls k 300 _ _ t176 t179 t180 _ ?side1 ?side2 A2.out).mono ?_); (case side1 => repeat (first | exact (Kd.R_reads' HO178.out).2.2 | (with_reducible refine Kd.C_alloc ?_ _) | (with_reducible refine Kd.C_drewN ?_ _) | (with_reducible refine Kd.C_drew ?_))); (case side2 => exact (Kd.R_reads' HO178.out).2.1); rintro e w6 ⟨v181, rfl, ho0, hb⟩; refine ⟨_, rfl, ?_⟩; have n0_ := Aside0.mk (Kd.R_below (by (with_reducible repeat (first | apply Kd.R_alloc | apply Kd.R_drewN | apply Kd.R_drew)); exact HO178.out) hb); have n1_ := Aside0.mk (Kd.R_lower ho0 (below_size (by repeat (first | (with_reducible first | exact HB.out | apply below_alloc | apply pw_below_drewN | apply below_drew1) | exact HB.out)))); have n2_ := Aside0.mk (below_step (by repeat (first | (with_reducible first | exact HB.out | apply below_alloc | apply pw_below_drewN | apply below_drew1) | exact HB.out)) hb); clear HO178; clear HB; have HO178 := n0_; have HO182 := n1_; have HB := n2_; clear n0_ n1_ n2_; (try clear hb); (try clear hb2); (try clear hk); (try clear hi); (try clear ho0); have hcv7 := own_string (P := Try.prog) Try.underlying24 Try.underlying5 Try.underlying9 (Kd.own_of_R HO182.out)) | ((with_reducible refine gate_dst (N := 13) rfl ?_); (try (refine gate_guard (by rfl) ?_; dsimp only)); refine Kd.R_lit (Kd.int .u8) _ 5 ?hg (N := 13) ?hd (xs := ([172, 2, 2, 0, 1, 97, 2, 120, 121, 1, 1, 98] : List Int)) (inner := [.int .u8 172, .int .u8 2, .int .u8 2, .int .u8 0, .int .u8 1, .int .u8 97, .int .u8 2, .int .u8 120, .int .u8 121, .int .u8 1, .int .u8 1, .int .u8 98]) (ok := fun _ => True) (okp := fun _ => True) ?hr ?hp (fun _ hk => hk) trivial (Below.refl _ _) (Nat.le_refl _) (by simp) ?_; (case hd => rfl); (case hg => rfl); (case hr => first | (go_simp; done) | (go_simp; rfl)); (case hp => exact (Reps.one (show Kd.M (Kd.int .u8) _ _ _ 172 [.int .u8 172] from rfl) (Reps.one (show Kd.M (Kd.int .u8) _ _ _ 2 [.int .u8 2] from rfl) (Reps.one (show Kd.M (Kd.int .u8) _ _ _ 2 [.int .u8 2] from rfl) (Reps.one (show Kd.M (Kd.int .u8) _ _ _ 0 [.int .u8 0] from rfl) (Reps.one (show Kd.M (Kd.int .u8) _ _ _ 1 [.int .u8 1] from rfl) (Reps.one (show Kd.M (Kd.int .u8) _ _ _ 97 [.int .u8 97] from rfl) (Reps.one (show Kd.M (Kd.int .u8) _ _ _ 2 [.int .u8 2] from rfl) (Reps.one (show Kd.M (Kd.int .u8) _ _ _ 120 [.int .u8 120] from rfl) (Reps.one (show Kd.M (Kd.int .u8) _ _ _ 121 [.int .u8 121] from rfl) (Reps.one (show Kd.M (Kd.int .u8) _ _ _ 1 [.int .u8 1] from rfl) (Reps.one (show Kd.M (Kd.int .u8) _ _ _ 1 [.int .u8 1] from rfl) (Reps.one (show Kd.M (Kd.int .u8) _ _ _ 98 [.int .u8 98] from rfl) (Reps.none _ _)))))))))))))); intro v184 w8 ho9 hb hg_ hnew_; clear hg_ hnew_; (first | rw [← Ny183.out] at ho9 | (simp only [Int.reduceToNat] at ho9; rw [← Ny183.out] at ho9)); have n0_ := Aside0.mk (Kd.R_below (by (with_reducible repeat (first | apply Kd.R_alloc | apply Kd.R_drewN | apply Kd.R_drew)); exact HO178.out) hb); have n1_ := Aside0.mk (Kd.R_elder' (by (with_reducible repeat (first | apply Kd.R_alloc | apply Kd.R_drewN | apply Kd.R_drew)); exact HO182.out) (Kd.R_base ho9) hb); have n2_ := Aside0.mk (Kd.R_lower (Kd.R_new' ho9 (Kd.R_lt (by (with_reducible repeat (first | apply Kd.R_alloc | apply Kd.R_drewN | apply Kd.R_drew)); exact HO182.out))) (below_size (by repeat (first | (with_reducible first | exact HB.out | apply below_alloc | apply pw_below_drewN | apply below_drew1) | exact HB.out)))); have n3_ := Aside0.mk (below_step (by repeat (first | (with_reducible first | exact HB.out | apply below_alloc | apply pw_below_drewN | apply below_drew1) | exact HB.out)) hb); clear HO178; clear HO182; clear HB; have HO178 := n0_; have HO182 := n1_; have HO185 := n2_; have HB := n3_; clear n0_ n1_ n2_ n3_; clear hb ho9; have hcv10 := own_string (P := Try.prog) Try.underlying24 Try.underlying5 Try.underlying9 (Kd.own_of_R HO185.out)))
    go_ret
    exact ⟨by first | rfl | (simp [errW_none, errW_some] <;> rfl) | (simp [*, errW_none, errW_some] <;> rfl) | exact ret_ie _ | (simp [*, errW_none, errW_some, bne]; done), by repeat (first | (with_reducible first | exact HB.out | apply below_alloc | apply pw_below_drewN | apply below_drew1) | exact HB.out)⟩
  · rw [if_neg c3] at H
    have c3b0 : (t180 == 0) = false := beq_eq_false_iff_ne.mpr c3
    have c3b1 : (t180 != 0) = true := bne_iff_ne.mpr c3
    obtain rfl := Option.some.inj H
    go_enter Try.func19, Try.ntmps19
    go_wp2_with (first | ((with_reducible refine gate_callee (f := 20) rfl ?_); refine goesL_ (some 4) rfl rfl Try.func20 (by kernel_rfl) rfl #[] rfl (by (try simp only [List.map_toArray, List.map_cons, List.map_nil]); first | done | rfl | (simp only [List.length_drop, List.length_take]; rfl)) ?_; (with_reducible refine (millhandlaw10_two.calls  t176 _ A1.out).mono ?_); rintro e w11 ⟨v177, rfl, ho0, hb⟩; refine ⟨_, rfl, ?_⟩; have n0_ := Aside0.mk (Kd.R_lower ho0 (below_size (by repeat (first | (with_reducible first | exact HB.out | apply below_alloc | apply pw_below_drewN | apply below_drew1) | exact HB.out)))); have n1_ := Aside0.mk (below_step (by repeat (first | (with_reducible first | exact HB.out | apply below_alloc | apply pw_below_drewN | apply below_drew1) | exact HB.out)) hb); clear HB; have HO178 := n0_; have HB := n1_; clear n0_ n1_; (try clear hb); (try clear hb2); (try clear hk); (try clear hi); (try clear ho0); obtain ⟨Ao12, co12, eo12⟩ := Kd.R_slice HO178.out; subst eo12) | ((with_reducible refine gate_callee (f := 9) rfl ?_); refine goesL_ (some 5) rfl rfl Try.func9 (by kernel_rfl) rfl #[.int .i64 300, .slice Ao12 t176.length co12] rfl (by (try simp only [List.map_toArray, List.map_cons, List.map_nil]); first | done | rfl | (simp only [List.length_drop, List.length_take]; rfl)) ?_; (with_reducible refine (batch_Write.calls k 300 _ _ t176 t179 t180 _ ?side1 ?side2 A2.out).mono ?_); (case side1 => repeat (first | exact (Kd.R_reads' HO178.out).2.2 | (with_reducible refine Kd.C_alloc ?_ _) | (with_reducible refine Kd.C_drewN ?_ _) | (with_reducible refine Kd.C_drew ?_))); (case side2 => exact (Kd.R_reads' HO178.out).2.1); rintro e w13 ⟨v181, rfl, ho0, hb⟩; refine ⟨_, rfl, ?_⟩; have n0_ := Aside0.mk (Kd.R_below (by (with_reducible repeat (first | apply Kd.R_alloc | apply Kd.R_drewN | apply Kd.R_drew)); exact HO178.out) hb); have n1_ := Aside0.mk (Kd.R_lower ho0 (below_size (by repeat (first | (with_reducible first | exact HB.out | apply below_alloc | apply pw_below_drewN | apply below_drew1) | exact HB.out)))); have n2_ := Aside0.mk (below_step (by repeat (first | (with_reducible first | exact HB.out | apply below_alloc | apply pw_below_drewN | apply below_drew1) | exact HB.out)) hb); clear HO178; clear HB; have HO178 := n0_; have HO182 := n1_; have HB := n2_; clear n0_ n1_ n2_; (try clear hb); (try clear hb2); (try clear hk); (try clear hi); (try clear ho0)))
    go_ret
    exact ⟨by first | rfl | (simp [errW_none, errW_some] <;> rfl) | (simp [*, errW_none, errW_some] <;> rfl) | exact ret_ie _ | (simp [*, errW_none, errW_some, bne]; done), by repeat (first | (with_reducible first | exact HB.out | apply below_alloc | apply pw_below_drewN | apply below_drew1) | exact HB.out)⟩

end Go.Proofs.Ytonbfefceblfgaa.R

/- Contracts of Go functions and what they come to, over the translation of this seat: made by a program of this session (print2.py). -/
import Derived.Test.YtpalnbdcemmlnaaRx0
import Derived.Test.YtpalnbdcemmlnaaRx2
import Derived.Test.YtpalnbdcemmlnaaRx3
import Derived.Test.YtpalnbdcemmlnaaRx6
namespace Go.Proofs.Ytpalnbdcemmlnaa.R
open Go.RowKit Go.Proofs.Ytpalnbdcemmlnaa.Co Go.Proofs.Ytpalnbdcemmlnaa.Ret Go.Proofs.Ytpalnbdcemmlnaa.Plain Go.Proofs.Ytpalnbdcemmlnaa.Box Go.Proofs.YtpalnbdcemmlnaaW.PrintWords Go.Proofs.YtpalnbdcemmlnaaW.PrintLast Go.Proofs.YtpalnbdcemmlnaaW.PrintMore
attribute [local go_sem] max2_int min2_int max_two min_two max_three min_three max_four min_four   -- for this text's walks alone
set_option linter.unusedVariables false
set_option linter.unusedSimpArgs false

/-! ### block_Read: function 11 -/
theorem or_shift (a v i : Nat) (hi : i ≤ 9) (ha : a < 128 ^ i) (hv : v < 128) (h9 : i = 9 → v ≤ 1) : Go.bits .or .u64 (a : Int) (shl .u64 (IntKind.u64.wrap (v : Int)) (wrap64 (7 * (i : Int)))) = ((a + 128 ^ i * v : Nat) : Int) := by
 have hp : (2 : Nat) ^ (7 * i) = 128 ^ i := by rw [Nat.pow_mul]
 have hb : 128 ^ i * v < 18446744073709551616 := by
  by_cases h : i = 9
  ·
   subst h
   have := h9 rfl
   have e : (128 : Nat) ^ 9 = 9223372036854775808 := by decide
   rw [e]; omega
  ·
   have h1 : (128 : Nat) ^ i ≤ 128 ^ 8 := Nat.pow_le_pow_right (by decide) (by omega)
   have e : (128 : Nat) ^ 8 = 72057594037927936 := by decide
   rw [e] at h1
   have := Nat.mul_le_mul h1 (Nat.le_of_lt_succ hv)
   omega
 have ha2 : a < 18446744073709551616 := by
  have h1 : (128 : Nat) ^ i ≤ 128 ^ 9 := Nat.pow_le_pow_right (by decide) hi
  have e : (128 : Nat) ^ 9 = 9223372036854775808 := by decide
  omega
 have hs : shl .u64 (IntKind.u64.wrap (v : Int)) (wrap64 (7 * (i : Int))) = ((128 ^ i * v : Nat) : Int) := by
  unfold shl
  rw [w64 (by omega) (by omega)]
  have e1 : min (7 * (i : Int)).toNat IntKind.u64.bits = 7 * i := by simp [IntKind.bits]; omega
  rw [e1]
  have e2 : (v : Int) * 2 ^ (7 * i) = ((128 ^ i * v : Nat) : Int) := by
   rw [← hp]
   push_cast
   exact Int.mul_comm _ _
  rw [u64w_in (i := (v : Int)) (by omega) (by omega), e2, u64w_in (by omega) (by omega)]
 rw [hs, (bits_nat .u64 64 (by decide) (fun n h0 h1 => u64w_in h0 (by omega)) a (128 ^ i * v) (by omega) (by omega)).2]
 congr 1
 rw [Nat.or_comm, ← hp, ← Nat.two_pow_add_eq_or_of_lt (by rw [hp]; exact ha), Nat.add_comm]
theorem rd_nat (l : List Int) (i : Nat) (h : i < l.length) : rd l (i : Int) = l[i] := by
 simp [rd, List.getD_eq_getElem?_getD, List.getElem?_eq_getElem h]
def readFrom (acc i : Nat) (l : List Int) : Int × Int × Int := match rd1 i (l.drop i) with | some p => (((acc + 128 ^ i * p.1 : Nat) : Int), ((i + p.2 : Nat) : Int), 0) | none => (0, 0, 8)
theorem code_Read_l0 (l : List Int) (hl : l.length < 9223372036854775807) (hb : ∀ x ∈ l, 0 ≤ x ∧ x ≤ 255) : ∀ (d i acc : Nat), i + d = l.length → i ≤ 9 → acc < 128 ^ i → Ev (fun k => code_Read.l0 k (acc : Int) l (l.length : Int) (i : Int)) (readFrom acc i l)
 | 0, i, acc, h, hi, ha => by
  refine Ev.step (fun _ => code_Read.l0.eq_2 ..) (ev_neg (by omega) (ev_some ?_))
  unfold readFrom
  rw [List.drop_of_length_le (by omega)]
  rfl
 | d + 1, i, acc, h, hi, ha => by
  have hlt : i < l.length := by omega
  have hx := hb _ (List.getElem_mem hlt)
  refine Ev.step (fun _ => code_Read.l0.eq_2 ..) (ev_pos (by omega) (ev_pos (by omega) (ev_pos (by omega) ?_)))
  rw [rd_nat l i hlt]
  have hrf : readFrom acc i l = match (if i = 9 ∧ 1 < l[i] then none else if l[i] < 128 then (if l[i] = 0 ∧ 0 < i then none else some ((l[i]).toNat, 1)) else (rd1 (i + 1) (l.drop (i + 1))).map fun p => ((l[i] - 128).toNat + 128 * p.1, p.2 + 1)) with | some p => (((acc + 128 ^ i * p.1 : Nat) : Int), ((i + p.2 : Nat) : Int), 0) | none => (0, 0, 8) := by
   unfold readFrom
   rw [List.drop_eq_getElem_cons hlt, rd1]
  by_cases h9 : i = 9 ∧ 1 < l[i]
  ·
   rw [hrf, if_pos h9]
   exact ev_pos (by omega) (Ev.step (fun _ => code_Read.j1.eq_2 ..) (ev_pos (decide_eq_true (by omega)) (Ev.now _)))
  ·
   have key : Ev (fun k => code_Read.j1 k (acc : Int) (i : Int) l[i] l (l.length : Int) (i : Int) false) (readFrom acc i l) := by
    refine Ev.step (fun _ => code_Read.j1.eq_2 ..) (ev_neg (by simp) (ev_pos (by rw [w64 (by omega) (by omega)]; omega) ?_))
    obtain ⟨v, hv⟩ := Int.eq_ofNat_of_zero_le hx.1
    rw [hrf, if_neg h9, and127 hx.1 (by omega)]
    by_cases h128 : l[i] < 128
    ·
     rw [if_pos h128]
     have e := or_shift acc v i hi ha (by omega) (fun h => by omega)
     have em : l[i] % 128 = (v : Int) := by omega
     rw [em, e]
     refine ev_pos h128 ?_
     by_cases h0 : l[i] = 0
     ·
      refine ev_pos h0 ?_
      by_cases hi0 : 0 < i
      ·
       rw [if_pos (show l[i] = 0 ∧ 0 < i from ⟨h0, hi0⟩)]
       exact ev_pos (by omega) (Ev.now _)
      ·
       rw [if_neg (show ¬ (l[i] = 0 ∧ 0 < i) by omega)]
       refine ev_neg (by omega) (ev_some ?_)
       rw [w64 (by omega) (by omega)]
       simp only [Prod.mk.injEq, and_true]
       refine ⟨?_, by omega⟩
       rw [show (l[i]).toNat = v by omega]
     ·
      rw [if_neg (show ¬ (l[i] = 0 ∧ 0 < i) by omega)]
      refine ev_neg h0 (ev_some ?_)
      rw [w64 (by omega) (by omega)]
      simp only [Prod.mk.injEq, and_true]
      refine ⟨?_, by omega⟩
      rw [show (l[i]).toNat = v by omega]
    ·
     rw [if_neg h128]
     obtain ⟨u, hu⟩ : ∃ u : Nat, l[i] % 128 = (u : Int) ∧ v = u + 128 := ⟨v - 128, by omega, by omega⟩
     have e := or_shift acc u i hi ha (by omega) (fun h => by omega)
     rw [hu.1, e]
     have hi8 : i ≤ 8 := by
      by_cases h9' : i = 9
      ·
       exfalso; exact h9 ⟨h9', by omega⟩
      ·
       omega
     refine ev_neg h128 ?_
     rw [w64 (by omega) (by omega)]
     have hacc : acc + 128 ^ i * u < 128 ^ (i + 1) := by
      have h1 : 128 ^ i * u ≤ 128 ^ i * 127 := Nat.mul_le_mul_left _ (by omega)
      rw [Nat.pow_succ]
      omega
     refine ev_eq (code_Read_l0 l hl hb d (i + 1) (acc + 128 ^ i * u) (by omega) (by omega) hacc) ?_
     unfold readFrom
     cases hr : rd1 (i + 1) (l.drop (i + 1)) with
     | none => rfl
     | some p =>
      simp only [Option.map_some, Prod.mk.injEq, and_true]
      refine ⟨?_, by omega⟩
      rw [show (l[i] - 128).toNat = u by omega, Nat.pow_succ, Nat.mul_add, Nat.mul_assoc, Nat.add_assoc]
   by_cases h9' : i = 9
   ·
    refine ev_pos (by omega) ?_
    rw [decide_eq_false (show ¬ l[i] > 1 from fun h => h9 ⟨h9', h⟩)]
    exact key
   ·
    exact ev_neg (by omega) key
theorem code_Read_ev (l : List Int) (hl : l.length < 9223372036854775807) (hb : ∀ x ∈ l, 0 ≤ x ∧ x ≤ 255) : Ev (fun k => code_Read.f k l) (readS l) := by
 unfold code_Read.f
 refine ev_eq (code_Read_l0 l hl hb l.length 0 0 (by omega) (by omega) (by decide)) ?_
 unfold readFrom readS
 rw [List.drop_zero]
 cases rd1 0 l with
 | none => rfl
 | some p => simp


/-! ### readers of bytes: a struct of a slice and a bool behind a pointer -/
theorem wl_gen {P : Program} {ops : Array Oper} {Q : Exit → Act → World → Prop} {l : List Oper} {a : Act} {W : World} (Pr : World → Prop) (h : Pr W) (k : ∀ W', Pr W' → wpList P ops Q l a W') : wpList P ops Q l a W := k W h
theorem wp_gen {P : Program} {c : Code} {Q : Exit → Act → World → Prop} {a : Act} {W : World} (Pr : World → Prop) (h : Pr W) (k : ∀ W', Pr W' → c.wp P Q a W') : c.wp P Q a W := k W h
theorem grown_none {w w1 w2 : World} {g : Nat} (h : Below w.heap.size w w1) (h2 : w1.grownBy w2 (some g)) : w.grownBy w2 (some g) :=
 ⟨h2.os.trans h.os, h2.tape.trans h.tape, h2.output.trans h.output, Nat.le_trans h.size h2.size, fun k hk hne => (h2.block k (Nat.lt_of_lt_of_le hk h.size) hne).trans (h.block k hk)⟩
theorem grown_trans {w w1 w2 : World} {g : Nat} (h : w.grownBy w1 (some g)) (h2 : w1.grownBy w2 (some g)) : w.grownBy w2 (some g) :=
 ⟨h2.os.trans h.os, h2.tape.trans h.tape, h2.output.trans h.output, Nat.le_trans h.size h2.size, fun k hk hne => (h2.block k (Nat.lt_of_lt_of_le hk h.size) hne).trans (h.block k hk hne)⟩
theorem grownBy_cell (W : World) (b i : Nat) (v : Value) : W.grownBy (W.setCell ⟨b, i, none⟩ v) (some b) :=
 ⟨rfl, rfl, rfl, (KeepsWalks.setCell W _ v).size, fun k _ hk => Below.heap_setCell _ _ _ k (fun e => hk (by rw [e]))⟩
/-- Block g holds a reader: its bytes' slice, and whether something was wrong. -/
def RSt (t : Nat) (W : World) (g : Nat) (A : Option Addr) (n c : Nat) (bad : Bool) : Prop := W.heap[g]? = some (.cells #[.slice A n c, .bool bad] t (0, 0))
section
variable {t : Nat} {W W2 : World} {g n c n' c' : Nat} {A A' : Option Addr} {bad : Bool}
theorem RSt.c0 (h : RSt t W g A n c bad) : W.cell? ⟨g, 0, none⟩ = some (.slice A n c) := (blk_cell h 0).trans rfl
theorem RSt.c1 (h : RSt t W g A n c bad) : W.cell? ⟨g, 1, none⟩ = some (.bool bad) := (blk_cell h 1).trans rfl
theorem RSt.fr (h : RSt t W g A n c bad) (i : Nat) : W.frozen? ⟨g, i, none⟩ = false := blk_frozen h i
theorem RSt.set0 (h : RSt t W g A n c bad) : RSt t (W.setCell ⟨g, 0, none⟩ (.slice A' n' c')) g A' n' c' bad := blk_put h 0 _ rfl
theorem RSt.set1 (h : RSt t W g A n c bad) (b : Bool) : RSt t (W.setCell ⟨g, 1, none⟩ (.bool b)) g A n c b := blk_put h 1 _ rfl
theorem RSt.below (h : RSt t W g A n c bad) (hb : Below W.heap.size W W2) : RSt t W2 g A n c bad := blk_below h hb
theorem RSt.lt (h : RSt t W g A n c bad) : g < W.heap.size := blk_lt h
end
/-- What a reader's method leaves: it stands so far on in its bytes. -/
def RAfter (t : Nat) (w : World) (g : Nat) (A : Option Addr) (l l' : List Int) (bad' : Bool) (w' : World) : Prop :=
 ∃ A' c', RSt t w' g A' l'.length c' bad' ∧ (∀ W : World, Kd.C (Kd.int .u8) W A l.length l → Kd.C (Kd.int .u8) W A' l'.length l') ∧ l'.length ≤ c' ∧ w.grownBy w' (some g)
theorem bel_call {w W W2 : World} {g : Nat} (hb : Below w.heap.size w W) (hle : w.heap.size ≤ g) (hg : W.grownBy W2 (some g)) : Below w.heap.size w W2 := hb.grown hg (below_size hb) (fun j e => by have := Option.some.inj e; omega)


/-! ### numbers and texts read -/
/-- The next number, at most so great: it, what is left, whether something was wrong. -/
def numS (most : Int) (l : List Int) (bad : Bool) : Int × List Int × Bool := match rd1 0 l with
 | some p => if most < (p.1 : Int) then (0, l, true) else ((p.1 : Int), l.drop p.2, bad)
 | none => (0, l, true)
/-- The next text. -/
def txtS (l : List Int) (bad : Bool) : ByteArray × List Int × Bool :=
 if ((numS l.length l bad).2.1.length : Int) < (numS l.length l bad).1 then (⟨#[]⟩, (numS l.length l bad).2.1, true)
 else (strOfNums ((numS l.length l bad).2.1.take (numS l.length l bad).1.toNat), (numS l.length l bad).2.1.drop (numS l.length l bad).1.toNat, (numS l.length l bad).2.2)
theorem numS_bounds (most : Int) (hm : 0 ≤ most) (l : List Int) (bad : Bool) : 0 ≤ (numS most l bad).1 ∧ (numS most l bad).1 ≤ most ∧ (numS most l bad).2.1.length ≤ l.length ∧ ∀ x ∈ (numS most l bad).2.1, x ∈ l := by
 unfold numS
 split
 ·
  split
  ·
   exact ⟨Int.le_refl 0, hm, Nat.le_refl _, fun _ h => h⟩
  ·
   exact ⟨by simp, by dsimp only; omega, by simp only [List.length_drop]; omega, fun _ h => List.mem_of_mem_drop h⟩
 ·
  exact ⟨Int.le_refl 0, hm, Nat.le_refl _, fun _ h => h⟩
theorem txtS_bounds (l : List Int) (bad : Bool) : (txtS l bad).2.1.length ≤ l.length ∧ (∀ x ∈ (txtS l bad).2.1, x ∈ l) ∧ (txtS l bad).1.size ≤ l.length := by
 have h := numS_bounds l.length (by omega) l bad
 unfold txtS
 split
 ·
  exact ⟨h.2.2.1, h.2.2.2, Nat.zero_le _⟩
 ·
  refine ⟨by simp only [List.length_drop]; omega, fun x hx => h.2.2.2 x (List.mem_of_mem_drop hx), ?_⟩
  simp only [strOfNums_size, List.length_take]
  omega
theorem numS_bad {most : Int} {l : List Int} {bad : Bool} (hb : bad = false) (h : (numS most l bad).2.2 = true) : (numS most l bad).1 = 0 := by
 unfold numS at *
 split at h
 ·
  split at h
  ·
   rename_i h1; rw [if_pos h1]
  ·
   rw [hb] at h; cases h
 ·
  rfl


/-! ### this program's reader -/
theorem num_calls (g : Nat) (A : Option Addr) (c : Nat) (l : List Int) (bad : Bool) (most : Int) (w : World) (hb : RSt 53 w g A l.length c bad) (hr : Kd.C (Kd.int .u8) w A l.length l) (hc : l.length ≤ c) (hl : l.length ≤ 140737488351232) (hy : ∀ x ∈ l, 0 ≤ x ∧ x ≤ 255) (hm0 : 0 ≤ most) (hm1 : most < 9223372036854775808) :
  Calls Try.prog 26 #[.pointer (some ⟨g, 0, none⟩), .int .i64 most] w fun e w' => e = .returned (.int .i64 (numS most l bad).1) ∧ RAfter 53 w g A l (numS most l bad).2.1 (numS most l bad).2.2 w' := by
 obtain ⟨k1, hk1⟩ := (code_Read_ev l (by omega) hy).rounds
 have hcell := hb.c0
 have HR := Aside0.mk hr
 have HB := Aside0.mk hb
 have HYY := Aside0.mk hy
 have hmw : IntKind.u64.wrap most = most := u64w_in hm0 (by omega)
 clear hr hb hy
 cases hp : rd1 0 l with
 | none =>
  have hs : numS most l bad = (0, l, true) := by unfold numS; rw [hp]
  rw [hs]
  have HK := Aside0.mk (show code_Read.f k1 l = some (0, 0, 8) by rw [hk1]; unfold readS; rw [hp])
  clear hk1 hs hp
  go_enter Try.func26, Try.ntmps26
  go_wp2_with fail
  refine (code_Read.calls k1 A c l 0 0 8 _ HR.out hc HK.out).mono ?_
  rintro e w1 ⟨rfl, hb1⟩
  have HB1 := Aside0.mk (HB.out.below hb1)
  have HL := Aside0.mk hb1
  have hcell1 := HB1.out.c1
  have hfr1 := HB1.out.fr 1
  clear hb1 hcell
  go_wp2
  go_ret
  exact ⟨rfl, A, c, HB1.out.set1 true, fun _ h => h, hc, grown_none HL.out (grownBy_cell _ _ _ _)⟩
 | some p =>
  obtain ⟨pv, pn⟩ := p
  have hpl := rd1_len hp
  have hpv : (pv : Int) < 18446744073709551616 := by
   have := (rd1_only0 HYY.out hp).2.1
   omega
  dsimp only at hpl
  have HK := Aside0.mk (show code_Read.f k1 l = some ((pv : Int), (pn : Int), 0) by rw [hk1]; unfold readS; rw [hp])
  by_cases hbig : most < (pv : Int)
  ·
   have hs : numS most l bad = (0, l, true) := by unfold numS; rw [hp]; exact if_pos hbig
   rw [hs]
   have c2 : decide (most < (pv : Int)) = true := decide_eq_true hbig
   clear hk1 hs hp
   go_enter Try.func26, Try.ntmps26
   go_wp2_with fail
   refine (code_Read.calls k1 A c l _ _ _ _ HR.out hc HK.out).mono ?_
   rintro e w1 ⟨rfl, hb1⟩
   have HB1 := Aside0.mk (HB.out.below hb1)
   have HL := Aside0.mk hb1
   have hcell1 := HB1.out.c1
   have hfr1 := HB1.out.fr 1
   clear hb1 hcell
   go_wp2
   go_ret
   exact ⟨rfl, A, c, HB1.out.set1 true, fun _ h => h, hc, grown_none HL.out (grownBy_cell _ _ _ _)⟩
  ·
   have hs : numS most l bad = ((pv : Int), l.drop pn, bad) := by unfold numS; rw [hp]; exact if_neg hbig
   rw [hs]
   have c2 : decide (most < (pv : Int)) = false := decide_eq_false hbig
   obtain ⟨l1, hl1⟩ : ∃ l1, l1 = l.drop pn := ⟨_, rfl⟩
   obtain ⟨A1, hA1⟩ : ∃ A1, A1 = (if c = pn then A else A.map (·.add (pn * 1))) := ⟨_, rfl⟩
   obtain ⟨c1, hc1⟩ : ∃ c1, c1 = c - pn := ⟨_, rfl⟩
   have hl1n : l1.length = l.length - pn := by rw [hl1, List.length_drop]
   have HC1 : Aside0 (∀ W : World, Kd.C (Kd.int .u8) W A l.length l → Kd.C (Kd.int .u8) W A1 l1.length l1) := ⟨fun W h => by rw [hA1, hl1]; exact Kd.C_drop h hpl.2 hc⟩
   have hr1 : l1.length ≤ c1 := by omega
   have hcut1 : ∀ W : World, (Instr.slice 23 (.slice A l.length c) (some (.int .i64 (pn : Int))) none none).run Try.prog W = .ok (.slice A1 l1.length c1) W := fun W => by
    obtain ⟨i0, hi0, _, hsz0, _⟩ := info_parts info5
    have := cut_from (P := Try.prog) 23 5 .i64 Try.underlying23 hi0 1 hsz0 A l.length c (pn : Int) (by omega) (by omega) W
    rw [Int.toNat_natCast, ← hl1n, ← hA1, ← hc1] at this
    exact this
   rw [← hl1]
   have hpv2 : (pv : Int) < 9223372036854775808 := by omega
   have p1 : decide (0 ≤ (pn : Int)) = true := decide_eq_true (by omega)
   have p2 : decide ((pn : Int) ≤ (l.length : Int)) = true := decide_eq_true (by omega)
   clear hk1 hs hp hl1n hl1 hA1 hc1
   go_enter Try.func26, Try.ntmps26
   go_wp2_with fail
   refine (code_Read.calls k1 A c l _ _ _ _ HR.out hc HK.out).mono ?_
   rintro e w1 ⟨rfl, hb1⟩
   have HB1 := Aside0.mk (HB.out.below hb1)
   have HL := Aside0.mk hb1
   have hcell1 := HB1.out.c0
   have hfr1 := HB1.out.fr 0
   clear hb1 hcell
   go_wp2
   go_ret
   exact ⟨rfl, A1, c1, HB1.out.set0, HC1.out, hr1, grown_none HL.out (grownBy_cell _ _ _ _)⟩

theorem text_calls (g : Nat) (A : Option Addr) (c : Nat) (l : List Int) (bad : Bool) (w : World) (hb : RSt 53 w g A l.length c bad) (hr : Kd.C (Kd.int .u8) w A l.length l) (hc : l.length ≤ c) (hl : l.length ≤ 140737488351232) (hy : ∀ x ∈ l, 0 ≤ x ∧ x ≤ 255)
  (hfar : ∀ W : World, w.grownBy W (some g) → Kd.C (Kd.int .u8) W A l.length l) :
  Calls Try.prog 27 #[.pointer (some ⟨g, 0, none⟩)] w fun e w' => e = .returned (.string (txtS l bad).1) ∧ RAfter 53 w g A l (txtS l bad).2.1 (txtS l bad).2.2 w' := by
 have hcell := hb.c0
 have HR := Aside0.mk hr
 have HB := Aside0.mk hb
 have HY := Aside0.mk hy
 have HF := Aside0.mk hfar
 have hnb := numS_bounds l.length (by omega) l bad
 clear hr hb hy hfar
 unfold txtS
 obtain ⟨r, hrr⟩ : ∃ r, r = numS l.length l bad := ⟨_, rfl⟩
 rw [← hrr] at hnb ⊢
 obtain ⟨n, l1, bad1⟩ := r
 obtain ⟨hn0, hn1, hl1, hm1⟩ := hnb
 dsimp only at hn0 hn1 hl1 hm1 ⊢
 have HN := Aside0.mk hrr
 have HM := Aside0.mk hm1
 clear hrr hm1
 by_cases hbig : (l1.length : Int) < n
 ·
  rw [if_pos hbig]
  have c2 : decide ((l1.length : Int) < n) = true := decide_eq_true hbig
  go_enter Try.func27, Try.ntmps27
  go_wp2_with fail
  refine (num_calls g A c l bad l.length _ HB.out HR.out hc hl HY.out (by omega) (by omega)).mono ?_
  rw [← HN.out]
  rintro e w1 ⟨rfl, A1, c1, hb1, hC1, hc1, hg1⟩
  have HB1 := Aside0.mk hb1
  have HG1 := Aside0.mk hg1
  have HC1 := Aside0.mk hC1
  have hcell1 := hb1.c0
  have hcell2 := hb1.c1
  have hfr1 := hb1.fr 1
  clear hb1 hg1 hC1 hcell
  dsimp only
  dsimp only at hcell1 hcell2
  go_wp2
  go_ret
  exact ⟨rfl, A1, c1, HB1.out.set1 true, HC1.out, hc1, grown_trans HG1.out (grownBy_cell _ _ _ _)⟩
 ·
  rw [if_neg hbig]
  have c2 : decide ((l1.length : Int) < n) = false := decide_eq_false hbig
  obtain ⟨m, rfl⟩ := Int.eq_ofNat_of_zero_le hn0
  have hml : m ≤ l1.length := by omega
  rw [Int.toNat_natCast]
  obtain ⟨l2, hl2⟩ : ∃ l2, l2 = l1.drop m := ⟨_, rfl⟩
  rw [← hl2]
  go_enter Try.func27, Try.ntmps27
  go_wp2_with fail
  refine (num_calls g A c l bad l.length _ HB.out HR.out hc hl HY.out (by omega) (by omega)).mono ?_
  rw [← HN.out]
  rintro e w1 ⟨rfl, A1, c1, hb1, hC1, hc1, hg1⟩
  dsimp only at hb1 hC1 hc1 ⊢
  have hcw : Kd.C (Kd.int .u8) w1 A1 l1.length l1 := hC1 _ (HF.out _ hg1)
  obtain ⟨A2, hA2⟩ : ∃ A2, A2 = (if c1 = m then A1 else A1.map (·.add (m * 1))) := ⟨_, rfl⟩
  obtain ⟨c2', hc2⟩ : ∃ c2', c2' = c1 - m := ⟨_, rfl⟩
  have hl2n : l2.length = l1.length - m := by rw [hl2, List.length_drop]
  have HC2 : Aside0 (∀ W : World, Kd.C (Kd.int .u8) W A l.length l → Kd.C (Kd.int .u8) W A2 l2.length l2) := ⟨fun W h => by rw [hA2, hl2]; exact Kd.C_drop (hC1 W h) hml hc1⟩
  have hr2 : l2.length ≤ c2' := by omega
  have hcut1 : ∀ W : World, (Instr.slice 23 (.slice A1 l1.length c1) (some (.int .i64 (m : Int))) none none).run Try.prog W = .ok (.slice A2 l2.length c2') W := fun W => by
   obtain ⟨i0, hi0, _, hsz0, _⟩ := info_parts info5
   have := cut_from (P := Try.prog) 23 5 .i64 Try.underlying23 hi0 1 hsz0 A1 l1.length c1 (m : Int) (by omega) (by omega) W
   rw [Int.toNat_natCast, ← hl2n, ← hA2, ← hc2] at this
   exact this
  have hcut2 : ∀ W : World, (Instr.slice 23 (.slice A1 l1.length c1) none (some (.int .i64 (m : Int))) none).run Try.prog W = .ok (.slice A1 m c1) W := fun W => by
   obtain ⟨i0, hi0, _, hsz0, _⟩ := info_parts info5
   have := cut_to (P := Try.prog) 23 5 .i64 Try.underlying23 hi0 A1 l1.length c1 (m : Int) (by omega) (by omega) hc1 W
   rw [Int.toNat_natCast] at this
   exact this
  have hconv : (convert 23 9 (.slice A1 m c1)).run Try.prog w1 = .ok (.string (strOfNums (l1.take m))) w1 := by
   have := C_string_ (P := Try.prog) (c := c1) Try.underlying23 Try.underlying5 Try.underlying9 (Kd.C_take hcw hml) m (by rw [List.length_take]; omega)
   exact this
  have HB1 := Aside0.mk hb1
  have HG1 := Aside0.mk hg1
  have hcell1 := hb1.c0
  have hfr1 := hb1.fr 0
  have p1 : decide (0 ≤ (m : Int)) = true := decide_eq_true (by omega)
  have p2 : decide ((m : Int) ≤ (l1.length : Int)) = true := decide_eq_true (by omega)
  clear hb1 hg1 hC1 hcell hcw hl2 hA2 hc2 hl2n HR HB HY HF HN HM
  go_wp2
  go_ret
  exact ⟨rfl, A2, c2', HB1.out.set0, HC2.out, hr2, grown_trans HG1.out (grownBy_cell _ _ _ _)⟩


theorem code_Small_l0 : ∀ (d n : Nat) (acc : List Int), n < 128 ^ (d + 1) → acc.length + d < 140737488355300 → Ev (fun k => code_Small.l0 k (n : Int) acc) (acc ++ smallN n)
 | d, n, acc, h, hl => by
  refine Ev.step (fun _ => code_Small.l0.eq_2 ..) ?_
  by_cases h1 : n < 128
  ·
   refine ev_neg (by omega) (ev_pos (by omega) (ev_some ?_))
   rw [smallN_lt h1]
   congr 2
   omega
  ·
   refine ev_pos (by omega) (ev_pos (by omega) ?_)
   cases d with
   | zero => omega
   | succ d =>
    have hd : n / 128 < 128 ^ (d + 1) := by rw [Nat.div_lt_iff_lt_mul (by decide)]; rw [Nat.pow_succ] at h; exact h
    rw [smallN_ge h1, or128 (by omega) (by omega)]
    refine ev_eq (code_Small_l0 d (n / 128) _ hd (by simp; omega)) ?_
    rw [List.append_assoc, List.singleton_append]
    congr 2
    omega
theorem code_Small_ev {n : Int} (h0 : 0 ≤ n) (h : n < 18446744073709551616) : Ev (fun k => code_Small.f k n) (smallN n.toNat) := by
 obtain ⟨m, rfl⟩ := Int.eq_ofNat_of_zero_le h0
 unfold code_Small.f
 exact code_Small_l0 9 m [] (by omega) (by simp)


theorem code_Text_ev {s : ByteArray} (h : s.size ≤ 140737488351232) : Ev (fun k => code_Text.f k s) (smallN s.size ++ bytesOf s) := by
 unfold code_Text.f
 rw [u64w_in (by omega) (by omega)]
 refine Ev.bind (code_Small_ev (by omega) (by omega)) ?_
 have := smallN_len10 (n := s.size) (by omega)
 exact ev_pos (by rw [Int.toNat_natCast]; omega) (Ev.now _)


/-! ### entries as a block, in plain words -/
abbrev EnT := S39
def keyedS (s : ByteArray) : Bool := decide (1 ≤ s.size) && decide (s.size ≤ 64)
def mayS (x : EnT) : Bool := keyedS x.f0 && decide (1 ≤ x.f1) && decide (x.f1 ≤ 1099511627776) && decide (x.f3.size ≤ 512) && (!x.f2 || x.f3.toList.isEmpty)
theorem nil_size (s : ByteArray) : s.toList = [] ↔ s.size = 0 := by
 rw [ByteArray.toList_eq]
 constructor
 ·
  intro h
  have := congrArg List.length h
  simpa using this
 ·
  intro h
  apply List.eq_nil_of_length_eq_zero
  simpa using h
theorem block_keyed_eq (s : ByteArray) : block_keyed.f s = some (keyedS s) := by
 unfold block_keyed.f keyedS
 by_cases h : s.toList = []
 ·
  have h0 := (nil_size s).mp h
  rw [if_pos h]
  simp [h0]
 ·
  have h0 : ¬ s.size = 0 := fun e => h ((nil_size s).mpr e)
  rw [if_neg h]
  have : 1 ≤ s.size := by omega
  simp [this]
  omega
theorem block_may_eq (x : EnT) : block_may.f x.f0 x.f1 x.f2 x.f3 = some (mayS x) := by
 unfold block_may.f mayS
 rw [block_keyed_eq]
 simp only [Option.bind_some]
 cases x.f2 <;> cases x.f3.toList <;> cases keyedS x.f0 <;> repeat' split
 all_goals simp_all
 all_goals omega
theorem mayS_bounds {x : EnT} (h : mayS x = true) : 1 ≤ x.f0.size ∧ x.f0.size ≤ 64 ∧ 1 ≤ x.f1 ∧ x.f1 ≤ 1099511627776 ∧ x.f3.size ≤ 512 ∧ (x.f2 = true → x.f3.toList = []) := by
 unfold mayS keyedS at h
 simp only [Bool.and_eq_true, decide_eq_true_eq, Bool.or_eq_true, Bool.not_eq_true', List.isEmpty_iff] at h
 obtain ⟨⟨⟨⟨⟨h1, h2⟩, h3⟩, h4⟩, h5⟩, h6⟩ := h
 refine ⟨h1, h2, h3, h4, h5, fun hd => ?_⟩
 rcases h6 with h6 | h6
 ·
  rw [hd] at h6; cases h6
 ·
  exact h6
/-- May an entry stand behind another one? -/
def okS (p x : EnT) : Bool := if Op.bytesLess x.f0.toList p.f0.toList = true then false else if x.f0.toList = p.f0.toList then !decide (p.f1 ≤ x.f1) else true
def stepS : Option EnT → EnT → Bool
 | none, _ => true
 | some q, x => okS q x
def ordF : Option EnT → List EnT → Bool
 | _, [] => true
 | p, x :: t => mayS x && stepS p x && ordF (some x) t
theorem ordF_cons (p : Option EnT) (x : EnT) (t : List EnT) : ordF p (x :: t) = (mayS x && stepS p x && ordF (some x) t) := rfl
def commonN : List UInt8 → List UInt8 → Nat
 | x :: a, y :: b => if x = y then commonN a b + 1 else 0
 | _, _ => 0
def commonS (a b : ByteArray) : Nat := commonN a.data.toList b.data.toList
theorem commonN_le : ∀ (a b : List UInt8), commonN a b ≤ a.length ∧ commonN a b ≤ b.length
 | [], _ => by simp [commonN]
 | _ :: _, [] => by simp [commonN]
 | x :: a, y :: b => by
  have := commonN_le a b
  unfold commonN
  split <;> simp <;> omega
theorem bt_get (s : ByteArray) (i : Nat) (h : i < s.size) (h' : i < s.data.toList.length) : bt s (i : Int) = ((s.data.toList[i]).toNat : Int) := by
 unfold bt
 rw [dif_pos (by simpa using h)]
 simp only [Int.toNat_natCast]
 rfl
theorem block_Common_l0 (a b : ByteArray) (ha : a.size < 9223372036854775807) (hb : b.size < 9223372036854775807) : ∀ (d i : Nat), i + d = min a.size b.size → Ev (fun k => block_Common.l0 k a b (mn (a.size : Int) (b.size : Int)) (i : Int)) ((i + commonN (a.data.toList.drop i) (b.data.toList.drop i) : Nat) : Int)
 | 0, i, h => by
  have hm : mn (a.size : Int) (b.size : Int) = (i : Int) := by unfold mn; split <;> omega
  have hz : commonN (a.data.toList.drop i) (b.data.toList.drop i) = 0 := by
   have := commonN_le (a.data.toList.drop i) (b.data.toList.drop i)
   have e1 : (a.data.toList.drop i).length = a.size - i := by rw [List.length_drop]; rfl
   have e2 : (b.data.toList.drop i).length = b.size - i := by rw [List.length_drop]; rfl
   omega
  rw [hz, hm]
  exact Ev.step (fun _ => block_Common.l0.eq_2 ..) (ev_neg (by omega) (ev_some (by rw [hm]; rfl)))
 | d + 1, i, h => by
  have hm : (i : Int) < mn (a.size : Int) (b.size : Int) := by unfold mn; split <;> omega
  have h1 : i < a.data.toList.length := by show i < a.size; omega
  have h2 : i < b.data.toList.length := by show i < b.size; omega
  refine Ev.step (fun _ => block_Common.l0.eq_2 ..) (ev_pos hm (ev_pos (by omega) (ev_pos (by omega) (ev_pos (by omega) ?_))))
  rw [bt_get a i (by omega) h1, bt_get b i (by omega) h2, List.drop_eq_getElem_cons h1, List.drop_eq_getElem_cons h2]
  by_cases he : a.data.toList[i] = b.data.toList[i]
  ·
   refine ev_pos (by rw [he]) ?_
   rw [w64 (by omega) (by omega)]
   refine ev_eq (block_Common_l0 a b ha hb d (i + 1) (by omega)) ?_
   rw [commonN, if_pos he]
   omega
  ·
   refine ev_neg (fun e => he (UInt8.toNat_inj.mp (Int.ofNat_inj.mp e))) (ev_some ?_)
   rw [commonN, if_neg he]
   rfl
theorem block_Common_ev (a b : ByteArray) (ha : a.size < 9223372036854775807) (hb : b.size < 9223372036854775807) : Ev (fun k => block_Common.f k a b) (commonS a b : Int) := by
 unfold block_Common.f
 have := block_Common_l0 a b ha hb (min a.size b.size) 0 (by omega)
 simp only [List.drop_zero, Nat.zero_add] at this
 exact this
theorem commonS_le (a b : ByteArray) : commonS a b ≤ a.size ∧ commonS a b ≤ b.size := commonN_le _ _
def textS (s : ByteArray) : List Int := smallN s.size ++ bytesOf s
def entB (last : ByteArray) (x : EnT) : List Int := smallN (commonS last x.f0) ++ textS (x.f0.extract (commonS last x.f0) x.f0.size) ++ smallN x.f1.toNat ++ (if x.f2 then [1] else 0 :: textS x.f3)
def bodyS : ByteArray → List EnT → List Int
 | _, [] => []
 | last, x :: t => entB last x ++ bodyS x.f0 t
def allS (l : List EnT) : List Int := smallN l.length ++ bodyS ⟨#[]⟩ l
def writeS (l : List EnT) : List Int × Int :=
 if l.length < 1 ∨ 1024 < l.length then ([], 4) else if ordF none l then (if 2048 < (allS l).length then ([], 3) else (allS l, 0)) else ([], 8)
theorem bytesOf_size (s : ByteArray) : (bytesOf s).length = s.size := by simp [bytesOf]
theorem textS_length {s : ByteArray} (h : s.size ≤ 1000) : (textS s).length ≤ s.size + 10 := by
 have := smallN_len10 (n := s.size) (by omega)
 unfold textS
 rw [List.length_append, bytesOf_size]
 omega
theorem extract_size (s : ByteArray) (n : Nat) (h : n ≤ s.size) : (s.extract n s.size).size = s.size - n := by simp
theorem entB_length {x : EnT} (h : mayS x = true) (last : ByteArray) : (entB last x).length ≤ 700 := by
 obtain ⟨h1, h2, h3, h4, h5, _⟩ := mayS_bounds h
 have hc := commonS_le last x.f0
 have a := smallN_len10 (n := commonS last x.f0) (by omega)
 have e := extract_size x.f0 (commonS last x.f0) hc.2
 have b := textS_length (s := x.f0.extract (commonS last x.f0) x.f0.size) (by omega)
 have c := smallN_len10 (n := x.f1.toNat) (by omega)
 have d := textS_length (s := x.f3) (by omega)
 unfold entB
 split <;> simp only [List.length_append, List.length_cons, List.length_nil] <;> omega
theorem ordF_may : ∀ {p : Option EnT} {l : List EnT}, ordF p l = true → ∀ x ∈ l, mayS x = true
 | _, [], _, x, hx => by cases hx
 | p, y :: t, h, x, hx => by
  unfold ordF at h
  rw [Bool.and_eq_true, Bool.and_eq_true] at h
  rcases List.mem_cons.mp hx with rfl | hx
  ·
   exact h.1.1
  ·
   exact ordF_may h.2 x hx
theorem rd_en (l : List EnT) (i : Nat) (h : i < l.length) : rd_T39 l (i : Int) = l[i] := by
 simp [rd_T39, List.getD_eq_getElem?_getD, List.getElem?_eq_getElem h]
theorem block_Write_l1 (l : List EnT) (hm : ∀ x ∈ l, mayS x = true) (hl : l.length ≤ 1024) : ∀ (d i : Nat) (acc : List Int) (last : ByteArray), i + d = l.length → acc.length + 700 * d < 140737488355328 → last.size ≤ 64 →
  Ev (fun k => block_Write.l1 k acc last l (l.length : Int) (i : Int)) (if 2048 < (acc ++ bodyS last (l.drop i)).length then ([], 3) else (acc ++ bodyS last (l.drop i), 0))
 | 0, i, acc, last, h, ha, hs => by
  refine Ev.step (fun _ => block_Write.l1.eq_2 ..) (ev_neg (by omega) ?_)
  rw [List.drop_of_length_le (by omega)]
  simp only [bodyS, List.append_nil]
  exact ev_ite' (by omega) (fun _ => Ev.now _) (fun _ => Ev.now _)
 | d + 1, i, acc, last, h, ha, hs => by
  have hi : i < l.length := by omega
  have hmi := hm _ (List.getElem_mem hi)
  obtain ⟨x, hx⟩ : ∃ x, x = l[i] := ⟨_, rfl⟩
  have hol := entB_length hmi last
  obtain ⟨h1, h2, h3, h4, h5, _⟩ := mayS_bounds hmi
  have hc := commonS_le last l[i].f0
  rw [← hx] at hmi hol h1 h2 h3 h4 h5 hc
  refine Ev.step (fun _ => block_Write.l1.eq_2 ..) (ev_pos (by omega) (ev_pos (by omega) (ev_pos (by omega) ?_)))
  rw [rd_en l i hi, ← hx, List.drop_eq_getElem_cons hi, ← hx]
  have ih := block_Write_l1 l hm hl d (i + 1) (acc ++ entB last x) x.f0 (by omega) (by rw [List.length_append]; omega) h2
  rw [show acc ++ bodyS last (x :: l.drop (i + 1)) = acc ++ entB last x ++ bodyS x.f0 (l.drop (i + 1)) by rw [bodyS, List.append_assoc]]
  refine Ev.bind (block_Common_ev last x.f0 (by omega) (by omega)) ?_
  rw [u64w_in (by omega) (by omega)]
  refine Ev.bind (code_Small_ev (by omega) (by omega)) ?_
  rw [Int.toNat_natCast]
  have e := extract_size x.f0 (commonS last x.f0) hc.2
  unfold entB at hol ih ⊢
  have a := smallN_len10 (n := commonS last x.f0) (by omega)
  have b := textS_length (s := x.f0.extract (commonS last x.f0) x.f0.size) (by omega)
  have c := smallN_len10 (n := x.f1.toNat) (by omega)
  have dd := textS_length (s := x.f3) (by omega)
  refine ev_pos (by omega) ?_
  simp only [Option.bind_some]
  refine ev_pos (by omega) (ev_pos (by omega) (Ev.bind (code_Text_ev (by omega)) ?_))
  refine ev_pos (by show _ + (textS _).length < _; rw [List.length_append]; omega) ?_
  rw [u64w_in (by omega) (by omega)]
  refine Ev.bind (code_Small_ev (by omega) (by omega)) ?_
  refine ev_pos (by show (acc ++ _ ++ textS _).length + _ < _; simp only [List.length_append]; omega) ?_
  cases hd : x.f2 with
  | true =>
   rw [hd] at ih
   refine ev_pos rfl (ev_pos (by show (acc ++ _ ++ textS _ ++ _).length < _; simp only [List.length_append]; omega) ?_)
   rw [w64 (by omega) (by omega)]
   refine ev_eq (Ev.congr (fun k => ?_) ih) rfl
   simp [textS]
  | false =>
   rw [hd] at ih
   refine ev_neg (by simp) (ev_pos (by show (acc ++ _ ++ textS _ ++ _).length < _; simp only [List.length_append]; omega) (Ev.bind (code_Text_ev (by omega)) ?_))
   refine ev_pos (by show (acc ++ _ ++ textS _ ++ _ ++ _).length + (textS _).length < _; simp only [List.length_append, List.length_cons, List.length_nil]; omega) ?_
   rw [w64 (by omega) (by omega)]
   refine ev_eq (Ev.congr (fun k => ?_) ih) rfl
   simp [textS]
def prevS (l : List EnT) (i : Nat) : Option EnT := if i = 0 then none else l[i - 1]?
theorem block_Write_l0 (l : List EnT) (hl : l.length ≤ 1024) (r : List Int × Int) (hr : ordF none l = true → Ev (fun k => (code_Small.f k (IntKind.u64.wrap ((l.length : Int)))).bind fun t123 => (block_Write.l1 k t123 (⟨#[]⟩ : ByteArray) l (l.length : Int) 0)) r) (hr2 : ordF none l = false → r = ([], 8)) : ∀ (d i : Nat), i + d = l.length → (ordF none l = ordF (prevS l i) (l.drop i)) →
  Ev (fun k => block_Write.l0 k l l (l.length : Int) (i : Int)) r
 | 0, i, h, ho => by
  rw [List.drop_of_length_le (by omega)] at ho
  exact Ev.step (fun _ => block_Write.l0.eq_2 ..) (ev_neg (by omega) (hr ho))
 | d + 1, i, h, ho => by
  have hi : i < l.length := by omega
  rw [List.drop_eq_getElem_cons hi] at ho
  have hp : prevS l (i + 1) = some l[i] := by unfold prevS; rw [if_neg (by omega), Nat.add_sub_cancel, List.getElem?_eq_getElem hi]
  have ih := block_Write_l0 l hl r hr hr2 d (i + 1) (by omega)
  rw [hp] at ih
  rw [ordF_cons] at ho
  refine Ev.step (fun _ => block_Write.l0.eq_2 ..) (ev_pos (by omega) (ev_pos (by omega) (ev_pos (by omega) ?_)))
  rw [rd_en l i hi, block_may_eq]
  simp only [Option.bind_some]
  by_cases hb : mayS l[i] = true
  ·
   rw [hb, Bool.true_and] at ho
   refine ev_pos hb ?_
   by_cases hz : i = 0
   ·
    have hpz : prevS l i = none := by unfold prevS; rw [if_pos hz]
    rw [hpz, show stepS none l[i] = true from rfl, Bool.true_and] at ho
    refine ev_neg (by omega) ?_
    rw [w64 (by omega) (by omega)]
    exact ih ho
   ·
    have hi1 : i - 1 < l.length := by omega
    have hpz : prevS l i = some l[i - 1] := by unfold prevS; rw [if_neg hz, List.getElem?_eq_getElem hi1]
    have e1 : wrap64 ((i : Int) - 1) = ((i - 1 : Nat) : Int) := by rw [w64 (by omega) (by omega)]; omega
    rw [hpz, show stepS (some l[i - 1]) l[i] = okS l[i - 1] l[i] from rfl] at ho
    refine ev_pos (by omega) ?_
    rw [e1, rd_en l (i - 1) hi1]
    refine ev_pos (by omega) (ev_pos (by omega) ?_)
    unfold okS at ho
    by_cases c1 : Op.bytesLess l[i].f0.toList l[i - 1].f0.toList = true
    ·
     rw [if_pos c1, Bool.false_and] at ho
     exact ev_pos c1 (ev_some (hr2 ho).symm)
    ·
     rw [if_neg c1] at ho
     refine ev_neg c1 ?_
     by_cases c2 : l[i].f0.toList = l[i - 1].f0.toList
     ·
      rw [if_pos c2] at ho
      refine ev_pos c2 ?_
      by_cases c3 : l[i].f1 ≥ l[i - 1].f1
      ·
       rw [decide_eq_true c3, Bool.not_true, Bool.false_and] at ho
       exact ev_pos c3 (ev_some (hr2 ho).symm)
      ·
       rw [decide_eq_false c3, Bool.not_false, Bool.true_and] at ho
       refine ev_neg c3 ?_
       rw [w64 (i := (i : Int) + 1) (by omega) (by omega)]
       exact ih ho
     ·
      rw [if_neg c2, Bool.true_and] at ho
      refine ev_neg c2 ?_
      rw [w64 (i := (i : Int) + 1) (by omega) (by omega)]
      exact ih ho
  ·
   rw [Bool.eq_false_iff.mpr hb, Bool.false_and, Bool.false_and] at ho
   exact ev_neg hb (ev_some (hr2 ho).symm)
theorem block_Write_ev (l : List EnT) (hl : l.length < 9223372036854775807) : Ev (fun k => block_Write.f k l) (writeS l) := by
 have hj : ∀ b, b = decide (l.length < 1 ∨ 1024 < l.length) → Ev (fun k => block_Write.j0 k l b) (writeS l) := by
  intro b hb
  unfold writeS
  refine Ev.step (fun _ => block_Write.j0.eq_2 ..) ?_
  by_cases h : l.length < 1 ∨ 1024 < l.length
  ·
   rw [if_pos h]
   exact ev_pos (by rw [hb]; exact decide_eq_true h) (Ev.now _)
  ·
   rw [if_neg h]
   refine ev_neg (by rw [hb, decide_eq_false h]; decide) ?_
   refine block_Write_l0 l (by omega) _ (fun ho => ?_) (fun ho => by rw [if_neg (by rw [ho]; decide)]) l.length 0 (by omega) (by rw [List.drop_zero]; rfl)
   rw [if_pos ho, u64w_in (by omega) (by omega)]
   refine Ev.bind (code_Small_ev (by omega) (by omega)) ?_
   rw [Int.toNat_natCast]
   have := smallN_len10 (n := l.length) (by omega)
   have h1 := block_Write_l1 l (ordF_may ho) (by omega) l.length 0 (smallN l.length) ⟨#[]⟩ (by omega) (by omega) (by decide)
   rw [List.drop_zero] at h1
   exact h1
 unfold block_Write.f
 by_cases h : (l.length : Int) = 0
 ·
  exact ev_pos h (hj true (by rw [decide_eq_true (by omega)]))
 ·
  refine ev_neg h (hj _ ?_)
  rw [decide_eq_decide]
  omega
theorem bytesOf_range (u : ByteArray) : ∀ x ∈ bytesOf u, 0 ≤ x ∧ x ≤ 255 := fun x hx => by
 unfold bytesOf at hx
 obtain ⟨y, _, rfl⟩ := List.mem_map.mp hx
 have := y.toNat_lt
 omega
theorem textS_range (u : ByteArray) : ∀ x ∈ textS u, 0 ≤ x ∧ x ≤ 255 := fun x hx => by
 unfold textS at hx
 rcases List.mem_append.mp hx with h | h
 ·
  exact smallN_bytes _ x h
 ·
  exact bytesOf_range u x h
theorem bodyS_range : ∀ (l : List EnT) (last : ByteArray), ∀ x ∈ bodyS last l, 0 ≤ x ∧ x ≤ 255
 | [], last, x, hx => by cases hx
 | y :: t, last, x, hx => by
  rw [bodyS] at hx
  rcases List.mem_append.mp hx with h | h
  ·
   unfold entB at h
   rcases List.mem_append.mp h with h | h
   ·
    rcases List.mem_append.mp h with h | h
    ·
     rcases List.mem_append.mp h with h | h
     ·
      exact smallN_bytes _ x h
     ·
      exact textS_range _ x h
    ·
     exact smallN_bytes _ x h
   ·
    split at h
    ·
     simp only [List.mem_cons, List.not_mem_nil, or_false] at h; subst h; decide
    ·
     rcases List.mem_cons.mp h with rfl | h
     ·
      decide
     ·
      exact textS_range _ x h
  ·
   exact bodyS_range t y.f0 x h
theorem writeS_range (l : List EnT) : ∀ x ∈ (writeS l).1, 0 ≤ x ∧ x ≤ 255 := by
 intro x hx
 unfold writeS at hx
 split at hx
 ·
  cases hx
 ·
  split at hx
  ·
   split at hx
   ·
    cases hx
   ·
    unfold allS at hx
    rcases List.mem_append.mp hx with h | h
    ·
     exact smallN_bytes _ x h
    ·
     exact bodyS_range l _ x h
  ·
   cases hx
theorem strOf_bytes (s : ByteArray) : strOfNums (bytesOf s) = s := by
 unfold strOfNums bytesOf
 rw [List.map_map]
 have : ((fun n : Int => UInt8.ofNat n.toNat) ∘ fun b : UInt8 => (b.toNat : Int)) = id := by funext b; simp
 rw [this]
 simp
theorem bytes_strOf {l : List Int} (h : ∀ x ∈ l, 0 ≤ x ∧ x ≤ 255) : bytesOf (strOfNums l) = l := by
 show List.map (fun b : UInt8 => (b.toNat : Int)) (List.map (fun n : Int => UInt8.ofNat n.toNat) l) = l
 rw [List.map_map]
 refine (List.map_congr_left (g := id) fun x hx => ?_).trans (List.map_id l)
 have := h x hx
 show ((UInt8.ofNat x.toNat).toNat : Int) = x
 simp
 omega
theorem same_bytes {a b : List Int} (ha : ∀ x ∈ a, 0 ≤ x ∧ x ≤ 255) (hb : ∀ x ∈ b, 0 ≤ x ∧ x ≤ 255) : ((strOfNums a).toList == (strOfNums b).toList) = decide (a = b) := by
 by_cases h : a = b
 ·
  rw [h, decide_eq_true rfl]; simp
 ·
  rw [decide_eq_false h]
  refine beq_eq_false_iff_ne.mpr fun e => h ?_
  have e2 : strOfNums a = strOfNums b := by
   rw [ByteArray.toList_eq, ByteArray.toList_eq] at e
   exact ByteArray.ext (Array.ext' e)
  rw [← bytes_strOf ha, ← bytes_strOf hb, e2]
theorem writeS_len {l : List EnT} (h : (writeS l).2 = 0) : 1 ≤ l.length ∧ l.length ≤ 1024 := by
 unfold writeS at h
 split at h
 ·
  cases h
 ·
  omega


/-! ### a block read -/
/-- A round: the entry, and what is left. -/
def roundS (last : ByteArray) (b : List Int) : Option (EnT × List Int) :=
 match numS last.size b false with
 | (p, b1, d1) => match txtS b1 d1 with
  | (s, b2, d2) => match numS 1099511627776 b2 d2 with
   | (q, b3, d3) => match numS 1 b3 d3 with
    | (d, b4, d4) => match (if d = 1 then ((⟨#[]⟩ : ByteArray), b4, d4) else txtS b4 d4) with
     | (v, b5, d5) => if d5 = true ∨ 64 < (last.extract 0 p.toNat ++ s).size then none else some (⟨last.extract 0 p.toNat ++ s, q, d == 1, v⟩, b5)
def entsFrom : Nat → ByteArray → List Int → List EnT → Option (List EnT × List Int)
 | 0, _, b, acc => some (acc, b)
 | m + 1, last, b, acc => match roundS last b with
  | none => none
  | some r => entsFrom m r.1.f0 r.2 (acc ++ [r.1])
/-- The entries of bytes, or the error. -/
def readB (l : List Int) : List EnT × Int :=
 if 2048 < l.length then ([], 3)
 else match numS 1024 l false with
  | (m, b, bad) => match entsFrom m.toNat ⟨#[]⟩ b [] with
   | none => ([], 8)
   | some r => if bad = true ∨ (writeS r.1).2 ≠ 0 ∨ (writeS r.1).1 ≠ l then ([], 8) else (r.1, 0)


/-! ### what a round of Read holds -/
structure LSt (t : Nat) (w : World) (g : Nat) (v : Value) (acc : List EnT) (A : Option Addr) (n c : Nat) (bad : Bool) (W : World) : Prop where
 box : RSt t W g A n c bad
 own : Kd.R k39 39 W w.heap.size (fun k => w.heap.size ≤ k ∧ k ≠ g) v acc
 bel : Below w.heap.size w W
 le : w.heap.size ≤ g
structure ZSt (t : Nat) (w : World) (g : Nat) (v : Value) (acc : List EnT) (gb : Nat) (cs : Array Value) (A : Option Addr) (n c : Nat) (bad : Bool) (W : World) : Prop where
 box : RSt t W g A n c bad
 blk : W.heap[gb]? = some (.cells cs 39 (0, 0))
 own : Kd.R k39 39 W w.heap.size (fun k => (w.heap.size ≤ k ∧ k ≠ g) ∧ k ≠ gb) v acc
 bel : Below w.heap.size w W
 le : w.heap.size ≤ g
 le' : w.heap.size ≤ gb
 ne : gb ≠ g
section
variable {t : Nat} {w W W2 : World} {g gb n c n2 c2 : Nat} {v : Value} {acc : List EnT} {cs : Array Value} {A A2 : Option Addr} {bad bad2 : Bool}
theorem LSt.drew (h : LSt t w g v acc A n c bad W) : LSt t w g v acc A n c bad W.drew := ⟨h.box, Kd.R_drew h.own, below_drew1 h.bel, h.le⟩
theorem LSt.call (h : LSt t w g v acc A n c bad W) (hb : RSt t W2 g A2 n2 c2 bad2) (hg : W.grownBy W2 (some g)) : LSt t w g v acc A2 n2 c2 bad2 W2 where
 box := hb
 own := Kd.R_grown h.own hg (fun _ hk e => hk.2 (Option.some.inj e))
 bel := h.bel.grown hg (below_size h.bel) (fun j e => by have := h.le; have := Option.some.inj e; omega)
 le := h.le
theorem ZSt.call (h : ZSt t w g v acc gb cs A n c bad W) (hb : RSt t W2 g A2 n2 c2 bad2) (hg : W.grownBy W2 (some g)) : ZSt t w g v acc gb cs A2 n2 c2 bad2 W2 where
 box := hb
 blk := blk_grown h.blk hg (fun e => h.ne (Option.some.inj e))
 own := Kd.R_grown h.own hg (fun _ hk e => hk.1.2 (Option.some.inj e))
 bel := h.bel.grown hg (below_size h.bel) (fun j e => by have := h.le; have := Option.some.inj e; omega)
 le := h.le
 le' := h.le'
 ne := h.ne
theorem LSt.new (h : LSt t w g v acc A n c bad W) (h2 : Below W.heap.size W W2) (e : gb = W.heap.size) (hk : W2.heap[gb]? = some (.cells cs 39 (0, 0))) : ZSt t w g v acc gb cs A n c bad W2 where
 box := h.box.below h2
 blk := hk
 own := Kd.R_below (Kd.R_mono (Kd.R_bound h.own) (fun k hk => ⟨hk.1, by have := hk.2.2.1; omega⟩)) h2
 bel := below_step h.bel h2
 le := h.le
 le' := by rw [e]; exact below_size h.bel
 ne := by have := h.box.lt; omega
theorem ZSt.drew (h : ZSt t w g v acc gb cs A n c bad W) : ZSt t w g v acc gb cs A n c bad W.drew := ⟨h.box, h.blk, Kd.R_drew h.own, below_drew1 h.bel, h.le, h.le', h.ne⟩
theorem ZSt.set (h : ZSt t w g v acc gb cs A n c bad W) (i : Nat) (u : Value) {cs' : Array Value} (e : cs.setIfInBounds i u = cs') : ZSt t w g v acc gb cs' A n c bad (W.setCell ⟨gb, i, none⟩ u) where
 box := blk_far (p := ⟨gb, i, none⟩) h.box (Ne.symm h.ne) _
 blk := blk_put h.blk i u e
 own := Kd.R_far (p := ⟨gb, i, none⟩) h.own (fun _ hk => hk.2) _
 bel := below_set h.bel h.le'
 le := h.le
 le' := h.le'
 ne := h.ne
theorem ZSt.cell (h : ZSt t w g v acc gb cs A n c bad W) (i : Nat) : W.cell? ⟨gb, i, none⟩ = cs[i]? := blk_cell h.blk i
theorem ZSt.fr (h : ZSt t w g v acc gb cs A n c bad W) (i : Nat) : W.frozen? ⟨gb, i, none⟩ = false := blk_frozen h.blk i
/-- Behind the round's append. -/
theorem ZSt.app (h : ZSt t w g v acc gb cs A n c bad W) {v1 : Value} {acc1 : List EnT} (ho : Kd.R k39 39 W2 w.heap.size (fun k => (w.heap.size ≤ k ∧ k ≠ g) ∧ k ≠ gb) v1 acc1) (hb : Below w.heap.size w W2) (hg : W.grownBy W2 v.ownBlock) : LSt t w g v1 acc1 A n c bad W2 where
 box := blk_grown h.box hg (fun e => (h.own.1 g e.symm).1.2 rfl)
 own := Kd.R_mono ho (fun _ hk => hk.1)
 bel := hb
 le := h.le
end
def block_Read.f (l0 : List Int) : Option ((List (S39)) × Int) := if (∀ x ∈ l0, 0 ≤ x ∧ x ≤ 255) ∧ l0.length ≤ 140737488351232 then some (readB l0) else none
set_option maxHeartbeats 8000000 in
set_option maxRecDepth 100000 in
theorem block_Read.calls (A0 : Option Addr) (c0 : Nat) (l0 : List Int) (r1 : List (S39)) (r2 : Int) (w : World) (hr0 : Kd.C (Kd.int .u8) w A0 l0.length l0) (hc0 : l0.length ≤ c0) (h : block_Read.f l0 = some (r1, r2)) :
  Calls Try.prog 11 #[.slice A0 l0.length c0] w fun e w' => ∃ v0_ : Value, e = .returned (.tuple #[v0_, .int .i64 r2]) ∧ Kd.R k39 39 w' w.heap.size (fun _ => True) v0_ r1 ∧ Below w.heap.size w w' := by
 unfold block_Read.f at h
 split at h
 case isFalse => cases h
 rename_i hcond
 obtain ⟨hy, hlen⟩ := hcond
 have hres : readB l0 = (r1, r2) := Option.some.inj h
 clear h
 have HX := Aside0.mk hres
 have HR0 := Aside0.mk hr0
 have HY := Aside0.mk hy
 clear hres hr0 hy
 by_cases hbig : 2048 < l0.length
 ·
  have e : ([] : List EnT) = r1 ∧ (3 : Int) = r2 := by
   have h := HX.out
   unfold readB at h
   rw [if_pos hbig] at h
   exact ⟨(Prod.mk.inj h).1, (Prod.mk.inj h).2⟩
  obtain ⟨rfl, rfl⟩ := e
  have c1 : decide (2048 < (l0.length : Int)) = true := decide_eq_true (by omega)
  go_enter Try.func11, Try.ntmps11
  go_wp2
  go_ret2
  exact ⟨_, rfl, Kd.R_nil _ _ _ _ _, Below.refl _ _⟩
 ·
  have c1 : decide (2048 < (l0.length : Int)) = false := decide_eq_false (by omega)
  have hnb := numS_bounds 1024 (by decide) l0 false
  have hnbad := @numS_bad 1024 l0 false rfl
  obtain ⟨m0, b0, bad, hn⟩ : ∃ m0 b0 bad, numS 1024 l0 false = (m0, b0, bad) := ⟨_, _, _, rfl⟩
  rw [hn] at hnb hnbad
  obtain ⟨hm0, hm1, hl1, hmem⟩ := hnb
  dsimp only at hm0 hm1 hl1 hmem hnbad
  obtain ⟨m, rfl⟩ := Int.eq_ofNat_of_zero_le hm0
  have HJ : Aside0 ((match entsFrom m ⟨#[]⟩ b0 [] with
   | none => ([], 8)
   | some r => if bad = true ∨ (writeS r.1).2 ≠ 0 ∨ (writeS r.1).1 ≠ l0 then ([], 8) else (r.1, 0)) = (r1, r2)) := ⟨by
    have h := HX.out
    unfold readB at h
    rw [if_neg hbig, hn] at h
    exact h⟩
  have HBM : Aside0 (bad = true → m = 0) := ⟨fun hb => Int.ofNat_inj.mp (hnbad hb)⟩
  have HN := Aside0.mk hn
  have HMEM : Aside0 (∀ x ∈ b0, 0 ≤ x ∧ x ≤ 255) := ⟨fun x hx => HY.out x (hmem x hx)⟩
  clear HX hn hmem hnbad
  have HB0 := Aside0.mk (show RSt 53 (w.alloc (.cells #[.slice A0 l0.length c0, .bool false] 53)) w.heap.size A0 l0.length c0 false from blk_new w _)
  have HBL0 := Aside0.mk (below_alloc (Below.refl w.heap.size w) (.cells #[.slice A0 l0.length c0, .bool false] 53))
  go_enter Try.func11, Try.ntmps11
  go_wp2_with fail
  refine (num_calls w.heap.size A0 c0 l0 false 1024 _ HB0.out (Kd.C_alloc HR0.out _) hc0 (by omega) HY.out (by decide) (by decide)).mono ?_
  rw [HN.out]
  rintro e w1 ⟨rfl, A, c, hb1, hC1, hc1, hg1⟩
  dsimp only at hb1 hC1 hc1 ⊢
  have HL : Aside0 (LSt 53 w w.heap.size (.slice none 0 0) [] A b0.length c bad w1) := ⟨⟨hb1, Kd.R_nil _ _ _ _ _, bel_call HBL0.out (Nat.le_refl _) hg1, Nat.le_refl _⟩⟩
  have HC := Aside0.mk (hC1 w HR0.out)
  clear hb1 hC1 hg1 HB0 HBL0
  go_wp2_with fail
  go_loopw [5, 6, 18] (fun v5 v6 v18 w' => ∃ (j : Nat) (b : List Int) (last : ByteArray) (acc : List EnT) (A : Option Addr) (c : Nat), v18 = .int .i64 (j : Int) ∧ v6 = .string last ∧ j ≤ m ∧ acc.length = j ∧ last.size ≤ 64 ∧ b.length ≤ c ∧ b.length ≤ 2048 ∧ Aside0 (entsFrom (m - j) last b acc = entsFrom m ⟨#[]⟩ b0 []) ∧ Aside0 (∀ x ∈ b, 0 ≤ x ∧ x ≤ 255) ∧ Aside0 (Kd.C (Kd.int .u8) w A b.length b) ∧ Aside0 (LSt 53 w w.heap.size v5 acc A b.length c bad w')) (fun v5 v6 v18 w' => m - (match v18 with | .int _ j => j.toNat | _ => 0))
  case atStart => exact ⟨0, b0, ⟨#[]⟩, [], A, c, rfl, rfl, Nat.zero_le _, rfl, by decide, hc1, by omega, ⟨rfl⟩, HMEM, HC, HL⟩
  case round =>
   obtain ⟨j, b, last, acc, A, c, rfl, rfl, hjm, hjl, hls, hc, hbl, HO, HYb, HC, HL⟩ := hrel
   by_cases hj : j < m
   ·
    obtain rfl : bad = false := by
     cases hbad : bad with
     | false => rfl
     | true => exact absurd (HBM.out hbad) (by omega)
    have hj1 : decide ((j : Int) < (m : Int)) = true := decide_eq_true (by omega)
    obtain ⟨dd, hd⟩ : ∃ dd, m - j = dd + 1 := ⟨m - j - 1, by omega⟩
    have hO := HO.out
    rw [hd, entsFrom] at hO
    unfold roundS at hO
    obtain ⟨p, b1, d1, hn1⟩ : ∃ p b1 d1, numS last.size b false = (p, b1, d1) := ⟨_, _, _, rfl⟩
    obtain ⟨s, b2, d2, hn2⟩ : ∃ s b2 d2, txtS b1 d1 = (s, b2, d2) := ⟨_, _, _, rfl⟩
    obtain ⟨q, b3, d3, hn3⟩ : ∃ q b3 d3, numS 1099511627776 b2 d2 = (q, b3, d3) := ⟨_, _, _, rfl⟩
    obtain ⟨d, b4, d4, hn4⟩ : ∃ d b4 d4, numS 1 b3 d3 = (d, b4, d4) := ⟨_, _, _, rfl⟩
    have hB1 := numS_bounds last.size (by omega) b false
    have hB2 := txtS_bounds b1 d1
    have hB3 := numS_bounds 1099511627776 (by decide) b2 d2
    have hB4 := numS_bounds 1 (by decide) b3 d3
    rw [hn1] at hB1
    rw [hn2] at hB2
    rw [hn3] at hB3
    rw [hn4] at hB4
    simp only [hn1, hn2, hn3, hn4] at hO
    dsimp only at hB1 hB2 hB3 hB4
    obtain ⟨hp0, hp1, hl1', hm1'⟩ := hB1
    obtain ⟨hl2, hm2, hs2⟩ := hB2
    obtain ⟨hq0, hq1, hl3, hm3⟩ := hB3
    obtain ⟨hd0, hd1, hl4, hm4⟩ := hB4
    have HY1 : Aside0 (∀ x ∈ b1, 0 ≤ x ∧ x ≤ 255) := ⟨fun x hx => HYb.out x (hm1' x hx)⟩
    have HY2 : Aside0 (∀ x ∈ b2, 0 ≤ x ∧ x ≤ 255) := ⟨fun x hx => HY1.out x (hm2 x hx)⟩
    have HY3 : Aside0 (∀ x ∈ b3, 0 ≤ x ∧ x ≤ 255) := ⟨fun x hx => HY2.out x (hm3 x hx)⟩
    have HY4 : Aside0 (∀ x ∈ b4, 0 ≤ x ∧ x ≤ 255) := ⟨fun x hx => HY3.out x (hm4 x hx)⟩
    have HN1 := Aside0.mk hn1
    have HN2 := Aside0.mk hn2
    have HN3 := Aside0.mk hn3
    have HN4 := Aside0.mk hn4
    have HO2 := Aside0.mk hO
    clear hn1 hn2 hn3 hn4 hO hm1' hm2 hm3 hm4 HO HN HMEM HBM
    have hcat : (9223372036854775807 < p.toNat + s.size) = False := eq_false (by omega)
    go_wp2_with fail
    refine start_ (n := 17) (S := fun w' => True) (ds := []) (b_ 17 0) (by kernel_rfl) rfl rfl trivial (fun hHeld => ?_)
    have n_ := Aside0.mk (LSt.drew HL.out)
    have HL := n_
    generalize wr.drew = ws at HL ⊢
    refine pure_ (i := 0) (N := some 20) (v := ?_) (a' := ?_) (b_ 17 1) rfl rfl (by kernel_rfl) (fun _ _ _ h => h) (Or.inl ⟨by rfl, ?_⟩) ?_ ?_
    rotate_left
    ·
     intro w'
     go_simp
     with_reducible rfl
    rotate_left
    ·
     simp only [Act.put, sa_, s0_, s1_, i64_w, i32_w]
     rfl
    refine pure_ (i := 1) (N := some 21) (v := ?_) (a' := ?_) (b_ 17 3) rfl rfl (by kernel_rfl) (fun _ _ _ h => h) (Or.inl ⟨by rfl, ?_⟩) ?_ ?_
    rotate_left
    ·
     intro w'
     go_simp
     with_reducible rfl
    rotate_left
    ·
     simp only [Act.put, sa_, s0_, s1_, i64_w, i32_w]
     rfl
    refine pure_ (i := 2) (N := some 22) (v := ?_) (a' := ?_) (b_ 17 7) rfl rfl (by kernel_rfl) (fun _ _ _ h => h) (Or.inl ⟨by rfl, ?_⟩) ?_ ?_
    rotate_left
    ·
     intro w'
     go_simp
     with_reducible rfl
    rotate_left
    ·
     simp only [Act.put, sa_, s0_, s1_, i64_w, i32_w]
     rfl
    refine pure_ (i := 3) (N := some 23) (v := ?_) (a' := ?_) (b_ 17 15) rfl rfl (by kernel_rfl) (fun _ _ _ h => h) (Or.inl ⟨by rfl, ?_⟩) ?_ ?_
    rotate_left
    ·
     intro w'
     go_simp
     with_reducible rfl
    rotate_left
    ·
     simp only [Act.put, sa_, s0_, s1_, i64_w, i32_w]
     rfl
    refine pure_ (i := 6) (N := some 26) (v := ?_) (a' := ?_) (b_ 17 79) rfl rfl (by kernel_rfl) (fun _ _ _ h => h) (Or.inl ⟨by rfl, ?_⟩) ?_ ?_
    rotate_left
    ·
     intro w'
     go_simp
     with_reducible rfl
    rotate_left
    ·
     simp only [Act.put, sa_, s0_, s1_, i64_w, i32_w]
     rfl
    refine pure_ (i := 9) (N := some 29) (v := ?_) (a' := ?_) (b_ 17 591) rfl rfl (by kernel_rfl) (fun _ _ _ h => h) (Or.inl ⟨by rfl, ?_⟩) ?_ ?_
    rotate_left
    ·
     intro w'
     go_simp
     with_reducible rfl
    rotate_left
    ·
     simp only [Act.put, sa_, s0_, s1_, i64_w, i32_w]
     rfl
    refine pure_ (i := 11) (N := some 31) (v := ?_) (a' := ?_) (b_ 17 2639) rfl rfl (by kernel_rfl) (fun _ _ _ h => h) (Or.inl ⟨by rfl, ?_⟩) ?_ ?_
    rotate_left
    ·
     intro w'
     go_simp
     with_reducible rfl
    rotate_left
    ·
     simp only [Act.put, sa_, s0_, s1_, i64_w, i32_w]
     rfl
    refine join_ (σ := Nat) 1 (b_ 17 65535) (fun s_ => [(24, .int .i64 p), (25, .string (last.extract 0 p.toNat)), (27, .string s), (28, .string (last.extract 0 p.toNat ++ s)), (30, .int .i64 q), (32, .int .i64 d), (33, .bool (d == 1)), (34, .agg #[.string (last.extract 0 p.toNat ++ s), .int .i64 q, .bool (d == 1), .string (⟨#[]⟩ : ByteArray)]), (7, .pointer (some ⟨s_, 0, none⟩))]) (fun s_ w' => ∃ (A4 : Option Addr) (c4 : Nat), Aside0 (ZSt 53 w w.heap.size u5 acc s_ #[.string (⟨#[]⟩ : ByteArray), .int .i64 0, .bool false, .string (⟨#[]⟩ : ByteArray)] A4 b4.length c4 d4 w') ∧ Aside0 (Kd.C (Kd.int .u8) w A4 b4.length b4) ∧ b4.length ≤ c4) ?_ ?_
    rotate_left
    ·
     intro hCont
     refine two_ (i := 4) (j := 15) (Ni := some 24) (Nj := some 7) (b_ 17 2655) (b_ 17 35407) rfl rfl rfl rfl (by kernel_rfl) (by decide) (by decide) (fun K hK => ?_) (fun K hK => ?_)
     ·
      skip
      refine goes_ Try.func26 (by kernel_rfl) rfl #[.pointer (some ⟨w.heap.size, 0, none⟩), .int .i64 (last.size : Int)] (by rfl) rfl rfl (by simp only [List.map_toArray, List.map_cons, List.map_nil]; rfl) ?_
      with_reducible refine (num_calls w.heap.size A c b false last.size _ HL.out.box (Kd.C_below HC.out HL.out.bel) hc (by omega) HYb.out (by omega) (by omega)).mono ?_
      rw [HN1.out]
      rintro e w1 ⟨rfl, A1, c1, hb_, hC_, hc1, hg_⟩
      dsimp only at hb_ hC_ hc1
      refine ⟨_, rfl, ?_⟩
      have HL := Aside0.mk (LSt.call HL.out hb_ hg_)
      have HC1 := Aside0.mk (hC_ w HC.out)
      clear hb_ hC_ hg_
      refine hK.out _ _ trivial (fun hHeld => ?_)
      clear hK K
      refine norm_ (a' := ?_) ?_ ?_
      rotate_left
      ·
       show Act.put _ (some 24) _ = _
       simp only [Act.put, sa_, s0_, s1_, i64_w, i32_w]
       rfl
      refine pure_ (i := 5) (N := some 25) (v := ?_) (a' := ?_) (b_ 17 2687) rfl rfl (by kernel_rfl) (fun _ _ _ h => h) (Or.inl ⟨by rfl, ?_⟩) ?_ ?_
      rotate_left
      ·
       intro w'
       go_simp
       with_reducible rfl
      rotate_left
      ·
       simp only [Act.put, sa_, s0_, s1_, i64_w, i32_w]
       rfl
      refine two_ (i := 7) (j := 15) (Ni := some 27) (Nj := some 7) (b_ 17 2815) (b_ 17 35455) rfl rfl rfl rfl (by kernel_rfl) (by decide) (by decide) (fun K hK => ?_) (fun K hK => ?_)
      ·
       skip
       refine goes_ Try.func27 (by kernel_rfl) rfl #[.pointer (some ⟨w.heap.size, 0, none⟩)] (by rfl) rfl rfl (by simp only [List.map_toArray, List.map_cons, List.map_nil]; rfl) ?_
       with_reducible refine (text_calls w.heap.size A1 c1 b1 d1 _ HL.out.box (Kd.C_below HC1.out HL.out.bel) hc1 (by omega) HY1.out (fun W hg => Kd.C_below HC1.out (bel_call HL.out.bel HL.out.le hg))).mono ?_
       rw [HN2.out]
       rintro e w2 ⟨rfl, A2, c2, hb_, hC_, hc2, hg_⟩
       dsimp only at hb_ hC_ hc2
       refine ⟨_, rfl, ?_⟩
       have HL := Aside0.mk (LSt.call HL.out hb_ hg_)
       have HC2 := Aside0.mk (hC_ w HC1.out)
       clear hb_ hC_ hg_
       refine hK.out _ _ trivial (fun hHeld => ?_)
       clear hK K
       refine norm_ (a' := ?_) ?_ ?_
       rotate_left
       ·
        show Act.put _ (some 27) _ = _
        simp only [Act.put, sa_, s0_, s1_, i64_w, i32_w]
        rfl
       refine pure_ (i := 8) (N := some 28) (v := ?_) (a' := ?_) (b_ 17 3071) rfl rfl (by kernel_rfl) (fun _ _ _ h => h) (Or.inl ⟨by rfl, ?_⟩) ?_ ?_
       rotate_left
       ·
        intro w'
        go_simp
        with_reducible rfl
       rotate_left
       ·
        simp only [Act.put, sa_, s0_, s1_, i64_w, i32_w]
        rfl
       refine two_ (i := 10) (j := 15) (Ni := some 30) (Nj := some 7) (b_ 17 4095) (b_ 17 35839) rfl rfl rfl rfl (by kernel_rfl) (by decide) (by decide) (fun K hK => ?_) (fun K hK => ?_)
       ·
        skip
        refine goes_ Try.func26 (by kernel_rfl) rfl #[.pointer (some ⟨w.heap.size, 0, none⟩), .int .i64 1099511627776] (by rfl) rfl rfl (by simp only [List.map_toArray, List.map_cons, List.map_nil]; rfl) ?_
        with_reducible refine (num_calls w.heap.size A2 c2 b2 d2 1099511627776 _ HL.out.box (Kd.C_below HC2.out HL.out.bel) hc2 (by omega) HY2.out (by decide) (by decide)).mono ?_
        rw [HN3.out]
        rintro e w3 ⟨rfl, A3, c3, hb_, hC_, hc3, hg_⟩
        dsimp only at hb_ hC_ hc3
        refine ⟨_, rfl, ?_⟩
        have HL := Aside0.mk (LSt.call HL.out hb_ hg_)
        have HC3 := Aside0.mk (hC_ w HC2.out)
        clear hb_ hC_ hg_
        refine hK.out _ _ trivial (fun hHeld => ?_)
        clear hK K
        refine norm_ (a' := ?_) ?_ ?_
        rotate_left
        ·
         show Act.put _ (some 30) _ = _
         simp only [Act.put, sa_, s0_, s1_, i64_w, i32_w]
         rfl
        refine two_ (i := 12) (j := 15) (Ni := some 32) (Nj := some 7) (b_ 17 8191) (b_ 17 36863) rfl rfl rfl rfl (by kernel_rfl) (by decide) (by decide) (fun K hK => ?_) (fun K hK => ?_)
        ·
         skip
         refine goes_ Try.func26 (by kernel_rfl) rfl #[.pointer (some ⟨w.heap.size, 0, none⟩), .int .i64 1] (by rfl) rfl rfl (by simp only [List.map_toArray, List.map_cons, List.map_nil]; rfl) ?_
         with_reducible refine (num_calls w.heap.size A3 c3 b3 d3 1 _ HL.out.box (Kd.C_below HC3.out HL.out.bel) hc3 (by omega) HY3.out (by decide) (by decide)).mono ?_
         rw [HN4.out]
         rintro e w4 ⟨rfl, A4, c4, hb_, hC_, hc4, hg_⟩
         dsimp only at hb_ hC_ hc4
         refine ⟨_, rfl, ?_⟩
         have HL := Aside0.mk (LSt.call HL.out hb_ hg_)
         have HC4 := Aside0.mk (hC_ w HC3.out)
         clear hb_ hC_ hg_
         refine hK.out _ _ trivial (fun hHeld => ?_)
         clear hK K
         refine norm_ (a' := ?_) ?_ ?_
         rotate_left
         ·
          show Act.put _ (some 32) _ = _
          simp only [Act.put, sa_, s0_, s1_, i64_w, i32_w]
          rfl
         refine pure_ (i := 13) (N := some 33) (v := ?_) (a' := ?_) (b_ 17 16383) rfl rfl (by kernel_rfl) (fun _ _ _ h => h) (Or.inl ⟨by rfl, ?_⟩) ?_ ?_
         rotate_left
         ·
          intro w'
          go_simp
          with_reducible rfl
         rotate_left
         ·
          simp only [Act.put, sa_, s0_, s1_, i64_w, i32_w]
          rfl
         refine pure_ (i := 14) (N := some 34) (v := ?_) (a' := ?_) (b_ 17 32767) rfl rfl (by kernel_rfl) (fun _ _ _ h => h) (Or.inl ⟨by rfl, ?_⟩) ?_ ?_
         rotate_left
         ·
          intro w'
          go_simp
          with_reducible rfl
         rotate_left
         ·
          simp only [Act.put, sa_, s0_, s1_, i64_w, i32_w]
          rfl
         refine one_ (i := 15) (N := some 7) (b_ 17 65535) rfl rfl (by kernel_rfl) (by decide) (fun K hK => ?_)
         refine box_step (by rfl) (N := 7) rfl (cs := #[.string (⟨#[]⟩ : ByteArray), .int .i64 0, .bool false, .string (⟨#[]⟩ : ByteArray)]) (t := 39) ?hr ?_
         (case hr => first | (go_simp; done) | (go_simp; rfl))
         rintro gb hgb w_ hblk hbel
         have HZ := Aside0.mk (LSt.new HL.out hbel hgb hblk)
         clear hgb hblk hbel
         refine hK.out _ _ trivial (fun hHeld => ?_)
         clear hK K
         refine norm_ (a' := ?_) ?_ ?_
         rotate_left
         ·
          show Act.put _ (some 7) _ = _
          simp only [Act.put, sa_, s0_, s1_, i64_w, i32_w]
          rfl
         exact norm_ (by simp only [putAll, Act.put, sa_, s0_, s1_]) (hCont gb _ ⟨A4, c4, HZ, HC4, hc4⟩)
        ·
         skip
         refine box_step (by rfl) (N := 7) rfl (cs := #[.string (⟨#[]⟩ : ByteArray), .int .i64 0, .bool false, .string (⟨#[]⟩ : ByteArray)]) (t := 39) ?hr ?_
         (case hr => first | (go_simp; done) | (go_simp; rfl))
         rintro gb hgb w_ hblk hbel
         have HZ := Aside0.mk (LSt.new HL.out hbel hgb hblk)
         clear hgb hblk hbel
         refine hK.out _ _ trivial (fun hHeld => ?_)
         clear hK K
         refine norm_ (a' := ?_) ?_ ?_
         rotate_left
         ·
          show Act.put _ (some 7) _ = _
          simp only [Act.put, sa_, s0_, s1_, i64_w, i32_w]
          rfl
         refine one_ (i := 12) (N := some 32) (b_ 17 40959) rfl rfl (by kernel_rfl) (by decide) (fun K hK => ?_)
         refine goes_ Try.func26 (by kernel_rfl) rfl #[.pointer (some ⟨w.heap.size, 0, none⟩), .int .i64 1] (by rfl) rfl rfl (by simp only [List.map_toArray, List.map_cons, List.map_nil]; rfl) ?_
         with_reducible refine (num_calls w.heap.size A3 c3 b3 d3 1 _ HZ.out.box (Kd.C_below HC3.out HZ.out.bel) hc3 (by omega) HY3.out (by decide) (by decide)).mono ?_
         rw [HN4.out]
         rintro e w4 ⟨rfl, A4, c4, hb_, hC_, hc4, hg_⟩
         dsimp only at hb_ hC_ hc4
         refine ⟨_, rfl, ?_⟩
         have HZ := Aside0.mk (ZSt.call HZ.out hb_ hg_)
         have HC4 := Aside0.mk (hC_ w HC3.out)
         clear hb_ hC_ hg_
         refine hK.out _ _ trivial (fun hHeld => ?_)
         clear hK K
         refine norm_ (a' := ?_) ?_ ?_
         rotate_left
         ·
          show Act.put _ (some 32) _ = _
          simp only [Act.put, sa_, s0_, s1_, i64_w, i32_w]
          rfl
         refine pure_ (i := 13) (N := some 33) (v := ?_) (a' := ?_) (b_ 17 49151) rfl rfl (by kernel_rfl) (fun _ _ _ h => h) (Or.inl ⟨by rfl, ?_⟩) ?_ ?_
         rotate_left
         ·
          intro w'
          go_simp
          with_reducible rfl
         rotate_left
         ·
          simp only [Act.put, sa_, s0_, s1_, i64_w, i32_w]
          rfl
         refine pure_ (i := 14) (N := some 34) (v := ?_) (a' := ?_) (b_ 17 65535) rfl rfl (by kernel_rfl) (fun _ _ _ h => h) (Or.inl ⟨by rfl, ?_⟩) ?_ ?_
         rotate_left
         ·
          intro w'
          go_simp
          with_reducible rfl
         rotate_left
         ·
          simp only [Act.put, sa_, s0_, s1_, i64_w, i32_w]
          rfl
         exact norm_ (by simp only [putAll, Act.put, sa_, s0_, s1_]) (hCont gb _ ⟨A4, c4, HZ, HC4, hc4⟩)
       ·
        skip
        refine box_step (by rfl) (N := 7) rfl (cs := #[.string (⟨#[]⟩ : ByteArray), .int .i64 0, .bool false, .string (⟨#[]⟩ : ByteArray)]) (t := 39) ?hr ?_
        (case hr => first | (go_simp; done) | (go_simp; rfl))
        rintro gb hgb w_ hblk hbel
        have HZ := Aside0.mk (LSt.new HL.out hbel hgb hblk)
        clear hgb hblk hbel
        refine hK.out _ _ trivial (fun hHeld => ?_)
        clear hK K
        refine norm_ (a' := ?_) ?_ ?_
        rotate_left
        ·
         show Act.put _ (some 7) _ = _
         simp only [Act.put, sa_, s0_, s1_, i64_w, i32_w]
         rfl
        refine one_ (i := 10) (N := some 30) (b_ 17 36863) rfl rfl (by kernel_rfl) (by decide) (fun K hK => ?_)
        refine goes_ Try.func26 (by kernel_rfl) rfl #[.pointer (some ⟨w.heap.size, 0, none⟩), .int .i64 1099511627776] (by rfl) rfl rfl (by simp only [List.map_toArray, List.map_cons, List.map_nil]; rfl) ?_
        with_reducible refine (num_calls w.heap.size A2 c2 b2 d2 1099511627776 _ HZ.out.box (Kd.C_below HC2.out HZ.out.bel) hc2 (by omega) HY2.out (by decide) (by decide)).mono ?_
        rw [HN3.out]
        rintro e w3 ⟨rfl, A3, c3, hb_, hC_, hc3, hg_⟩
        dsimp only at hb_ hC_ hc3
        refine ⟨_, rfl, ?_⟩
        have HZ := Aside0.mk (ZSt.call HZ.out hb_ hg_)
        have HC3 := Aside0.mk (hC_ w HC2.out)
        clear hb_ hC_ hg_
        refine hK.out _ _ trivial (fun hHeld => ?_)
        clear hK K
        refine norm_ (a' := ?_) ?_ ?_
        rotate_left
        ·
         show Act.put _ (some 30) _ = _
         simp only [Act.put, sa_, s0_, s1_, i64_w, i32_w]
         rfl
        refine one_ (i := 12) (N := some 32) (b_ 17 40959) rfl rfl (by kernel_rfl) (by decide) (fun K hK => ?_)
        refine goes_ Try.func26 (by kernel_rfl) rfl #[.pointer (some ⟨w.heap.size, 0, none⟩), .int .i64 1] (by rfl) rfl rfl (by simp only [List.map_toArray, List.map_cons, List.map_nil]; rfl) ?_
        with_reducible refine (num_calls w.heap.size A3 c3 b3 d3 1 _ HZ.out.box (Kd.C_below HC3.out HZ.out.bel) hc3 (by omega) HY3.out (by decide) (by decide)).mono ?_
        rw [HN4.out]
        rintro e w4 ⟨rfl, A4, c4, hb_, hC_, hc4, hg_⟩
        dsimp only at hb_ hC_ hc4
        refine ⟨_, rfl, ?_⟩
        have HZ := Aside0.mk (ZSt.call HZ.out hb_ hg_)
        have HC4 := Aside0.mk (hC_ w HC3.out)
        clear hb_ hC_ hg_
        refine hK.out _ _ trivial (fun hHeld => ?_)
        clear hK K
        refine norm_ (a' := ?_) ?_ ?_
        rotate_left
        ·
         show Act.put _ (some 32) _ = _
         simp only [Act.put, sa_, s0_, s1_, i64_w, i32_w]
         rfl
        refine pure_ (i := 13) (N := some 33) (v := ?_) (a' := ?_) (b_ 17 49151) rfl rfl (by kernel_rfl) (fun _ _ _ h => h) (Or.inl ⟨by rfl, ?_⟩) ?_ ?_
        rotate_left
        ·
         intro w'
         go_simp
         with_reducible rfl
        rotate_left
        ·
         simp only [Act.put, sa_, s0_, s1_, i64_w, i32_w]
         rfl
        refine pure_ (i := 14) (N := some 34) (v := ?_) (a' := ?_) (b_ 17 65535) rfl rfl (by kernel_rfl) (fun _ _ _ h => h) (Or.inl ⟨by rfl, ?_⟩) ?_ ?_
        rotate_left
        ·
         intro w'
         go_simp
         with_reducible rfl
        rotate_left
        ·
         simp only [Act.put, sa_, s0_, s1_, i64_w, i32_w]
         rfl
        exact norm_ (by simp only [putAll, Act.put, sa_, s0_, s1_]) (hCont gb _ ⟨A4, c4, HZ, HC4, hc4⟩)
      ·
       skip
       refine box_step (by rfl) (N := 7) rfl (cs := #[.string (⟨#[]⟩ : ByteArray), .int .i64 0, .bool false, .string (⟨#[]⟩ : ByteArray)]) (t := 39) ?hr ?_
       (case hr => first | (go_simp; done) | (go_simp; rfl))
       rintro gb hgb w_ hblk hbel
       have HZ := Aside0.mk (LSt.new HL.out hbel hgb hblk)
       clear hgb hblk hbel
       refine hK.out _ _ trivial (fun hHeld => ?_)
       clear hK K
       refine norm_ (a' := ?_) ?_ ?_
       rotate_left
       ·
        show Act.put _ (some 7) _ = _
        simp only [Act.put, sa_, s0_, s1_, i64_w, i32_w]
        rfl
       refine one_ (i := 7) (N := some 27) (b_ 17 35583) rfl rfl (by kernel_rfl) (by decide) (fun K hK => ?_)
       refine goes_ Try.func27 (by kernel_rfl) rfl #[.pointer (some ⟨w.heap.size, 0, none⟩)] (by rfl) rfl rfl (by simp only [List.map_toArray, List.map_cons, List.map_nil]; rfl) ?_
       with_reducible refine (text_calls w.heap.size A1 c1 b1 d1 _ HZ.out.box (Kd.C_below HC1.out HZ.out.bel) hc1 (by omega) HY1.out (fun W hg => Kd.C_below HC1.out (bel_call HZ.out.bel HZ.out.le hg))).mono ?_
       rw [HN2.out]
       rintro e w2 ⟨rfl, A2, c2, hb_, hC_, hc2, hg_⟩
       dsimp only at hb_ hC_ hc2
       refine ⟨_, rfl, ?_⟩
       have HZ := Aside0.mk (ZSt.call HZ.out hb_ hg_)
       have HC2 := Aside0.mk (hC_ w HC1.out)
       clear hb_ hC_ hg_
       refine hK.out _ _ trivial (fun hHeld => ?_)
       clear hK K
       refine norm_ (a' := ?_) ?_ ?_
       rotate_left
       ·
        show Act.put _ (some 27) _ = _
        simp only [Act.put, sa_, s0_, s1_, i64_w, i32_w]
        rfl
       refine pure_ (i := 8) (N := some 28) (v := ?_) (a' := ?_) (b_ 17 35839) rfl rfl (by kernel_rfl) (fun _ _ _ h => h) (Or.inl ⟨by rfl, ?_⟩) ?_ ?_
       rotate_left
       ·
        intro w'
        go_simp
        with_reducible rfl
       rotate_left
       ·
        simp only [Act.put, sa_, s0_, s1_, i64_w, i32_w]
        rfl
       refine one_ (i := 10) (N := some 30) (b_ 17 36863) rfl rfl (by kernel_rfl) (by decide) (fun K hK => ?_)
       refine goes_ Try.func26 (by kernel_rfl) rfl #[.pointer (some ⟨w.heap.size, 0, none⟩), .int .i64 1099511627776] (by rfl) rfl rfl (by simp only [List.map_toArray, List.map_cons, List.map_nil]; rfl) ?_
       with_reducible refine (num_calls w.heap.size A2 c2 b2 d2 1099511627776 _ HZ.out.box (Kd.C_below HC2.out HZ.out.bel) hc2 (by omega) HY2.out (by decide) (by decide)).mono ?_
       rw [HN3.out]
       rintro e w3 ⟨rfl, A3, c3, hb_, hC_, hc3, hg_⟩
       dsimp only at hb_ hC_ hc3
       refine ⟨_, rfl, ?_⟩
       have HZ := Aside0.mk (ZSt.call HZ.out hb_ hg_)
       have HC3 := Aside0.mk (hC_ w HC2.out)
       clear hb_ hC_ hg_
       refine hK.out _ _ trivial (fun hHeld => ?_)
       clear hK K
       refine norm_ (a' := ?_) ?_ ?_
       rotate_left
       ·
        show Act.put _ (some 30) _ = _
        simp only [Act.put, sa_, s0_, s1_, i64_w, i32_w]
        rfl
       refine one_ (i := 12) (N := some 32) (b_ 17 40959) rfl rfl (by kernel_rfl) (by decide) (fun K hK => ?_)
       refine goes_ Try.func26 (by kernel_rfl) rfl #[.pointer (some ⟨w.heap.size, 0, none⟩), .int .i64 1] (by rfl) rfl rfl (by simp only [List.map_toArray, List.map_cons, List.map_nil]; rfl) ?_
       with_reducible refine (num_calls w.heap.size A3 c3 b3 d3 1 _ HZ.out.box (Kd.C_below HC3.out HZ.out.bel) hc3 (by omega) HY3.out (by decide) (by decide)).mono ?_
       rw [HN4.out]
       rintro e w4 ⟨rfl, A4, c4, hb_, hC_, hc4, hg_⟩
       dsimp only at hb_ hC_ hc4
       refine ⟨_, rfl, ?_⟩
       have HZ := Aside0.mk (ZSt.call HZ.out hb_ hg_)
       have HC4 := Aside0.mk (hC_ w HC3.out)
       clear hb_ hC_ hg_
       refine hK.out _ _ trivial (fun hHeld => ?_)
       clear hK K
       refine norm_ (a' := ?_) ?_ ?_
       rotate_left
       ·
        show Act.put _ (some 32) _ = _
        simp only [Act.put, sa_, s0_, s1_, i64_w, i32_w]
        rfl
       refine pure_ (i := 13) (N := some 33) (v := ?_) (a' := ?_) (b_ 17 49151) rfl rfl (by kernel_rfl) (fun _ _ _ h => h) (Or.inl ⟨by rfl, ?_⟩) ?_ ?_
       rotate_left
       ·
        intro w'
        go_simp
        with_reducible rfl
       rotate_left
       ·
        simp only [Act.put, sa_, s0_, s1_, i64_w, i32_w]
        rfl
       refine pure_ (i := 14) (N := some 34) (v := ?_) (a' := ?_) (b_ 17 65535) rfl rfl (by kernel_rfl) (fun _ _ _ h => h) (Or.inl ⟨by rfl, ?_⟩) ?_ ?_
       rotate_left
       ·
        intro w'
        go_simp
        with_reducible rfl
       rotate_left
       ·
        simp only [Act.put, sa_, s0_, s1_, i64_w, i32_w]
        rfl
       exact norm_ (by simp only [putAll, Act.put, sa_, s0_, s1_]) (hCont gb _ ⟨A4, c4, HZ, HC4, hc4⟩)
     ·
      skip
      refine box_step (by rfl) (N := 7) rfl (cs := #[.string (⟨#[]⟩ : ByteArray), .int .i64 0, .bool false, .string (⟨#[]⟩ : ByteArray)]) (t := 39) ?hr ?_
      (case hr => first | (go_simp; done) | (go_simp; rfl))
      rintro gb hgb w_ hblk hbel
      have HZ := Aside0.mk (LSt.new HL.out hbel hgb hblk)
      clear hgb hblk hbel
      refine hK.out _ _ trivial (fun hHeld => ?_)
      clear hK K
      refine norm_ (a' := ?_) ?_ ?_
      rotate_left
      ·
       show Act.put _ (some 7) _ = _
       simp only [Act.put, sa_, s0_, s1_, i64_w, i32_w]
       rfl
      refine one_ (i := 4) (N := some 24) (b_ 17 35423) rfl rfl (by kernel_rfl) (by decide) (fun K hK => ?_)
      refine goes_ Try.func26 (by kernel_rfl) rfl #[.pointer (some ⟨w.heap.size, 0, none⟩), .int .i64 (last.size : Int)] (by rfl) rfl rfl (by simp only [List.map_toArray, List.map_cons, List.map_nil]; rfl) ?_
      with_reducible refine (num_calls w.heap.size A c b false last.size _ HZ.out.box (Kd.C_below HC.out HZ.out.bel) hc (by omega) HYb.out (by omega) (by omega)).mono ?_
      rw [HN1.out]
      rintro e w1 ⟨rfl, A1, c1, hb_, hC_, hc1, hg_⟩
      dsimp only at hb_ hC_ hc1
      refine ⟨_, rfl, ?_⟩
      have HZ := Aside0.mk (ZSt.call HZ.out hb_ hg_)
      have HC1 := Aside0.mk (hC_ w HC.out)
      clear hb_ hC_ hg_
      refine hK.out _ _ trivial (fun hHeld => ?_)
      clear hK K
      refine norm_ (a' := ?_) ?_ ?_
      rotate_left
      ·
       show Act.put _ (some 24) _ = _
       simp only [Act.put, sa_, s0_, s1_, i64_w, i32_w]
       rfl
      refine pure_ (i := 5) (N := some 25) (v := ?_) (a' := ?_) (b_ 17 35455) rfl rfl (by kernel_rfl) (fun _ _ _ h => h) (Or.inl ⟨by rfl, ?_⟩) ?_ ?_
      rotate_left
      ·
       intro w'
       go_simp
       with_reducible rfl
      rotate_left
      ·
       simp only [Act.put, sa_, s0_, s1_, i64_w, i32_w]
       rfl
      refine one_ (i := 7) (N := some 27) (b_ 17 35583) rfl rfl (by kernel_rfl) (by decide) (fun K hK => ?_)
      refine goes_ Try.func27 (by kernel_rfl) rfl #[.pointer (some ⟨w.heap.size, 0, none⟩)] (by rfl) rfl rfl (by simp only [List.map_toArray, List.map_cons, List.map_nil]; rfl) ?_
      with_reducible refine (text_calls w.heap.size A1 c1 b1 d1 _ HZ.out.box (Kd.C_below HC1.out HZ.out.bel) hc1 (by omega) HY1.out (fun W hg => Kd.C_below HC1.out (bel_call HZ.out.bel HZ.out.le hg))).mono ?_
      rw [HN2.out]
      rintro e w2 ⟨rfl, A2, c2, hb_, hC_, hc2, hg_⟩
      dsimp only at hb_ hC_ hc2
      refine ⟨_, rfl, ?_⟩
      have HZ := Aside0.mk (ZSt.call HZ.out hb_ hg_)
      have HC2 := Aside0.mk (hC_ w HC1.out)
      clear hb_ hC_ hg_
      refine hK.out _ _ trivial (fun hHeld => ?_)
      clear hK K
      refine norm_ (a' := ?_) ?_ ?_
      rotate_left
      ·
       show Act.put _ (some 27) _ = _
       simp only [Act.put, sa_, s0_, s1_, i64_w, i32_w]
       rfl
      refine pure_ (i := 8) (N := some 28) (v := ?_) (a' := ?_) (b_ 17 35839) rfl rfl (by kernel_rfl) (fun _ _ _ h => h) (Or.inl ⟨by rfl, ?_⟩) ?_ ?_
      rotate_left
      ·
       intro w'
       go_simp
       with_reducible rfl
      rotate_left
      ·
       simp only [Act.put, sa_, s0_, s1_, i64_w, i32_w]
       rfl
      refine one_ (i := 10) (N := some 30) (b_ 17 36863) rfl rfl (by kernel_rfl) (by decide) (fun K hK => ?_)
      refine goes_ Try.func26 (by kernel_rfl) rfl #[.pointer (some ⟨w.heap.size, 0, none⟩), .int .i64 1099511627776] (by rfl) rfl rfl (by simp only [List.map_toArray, List.map_cons, List.map_nil]; rfl) ?_
      with_reducible refine (num_calls w.heap.size A2 c2 b2 d2 1099511627776 _ HZ.out.box (Kd.C_below HC2.out HZ.out.bel) hc2 (by omega) HY2.out (by decide) (by decide)).mono ?_
      rw [HN3.out]
      rintro e w3 ⟨rfl, A3, c3, hb_, hC_, hc3, hg_⟩
      dsimp only at hb_ hC_ hc3
      refine ⟨_, rfl, ?_⟩
      have HZ := Aside0.mk (ZSt.call HZ.out hb_ hg_)
      have HC3 := Aside0.mk (hC_ w HC2.out)
      clear hb_ hC_ hg_
      refine hK.out _ _ trivial (fun hHeld => ?_)
      clear hK K
      refine norm_ (a' := ?_) ?_ ?_
      rotate_left
      ·
       show Act.put _ (some 30) _ = _
       simp only [Act.put, sa_, s0_, s1_, i64_w, i32_w]
       rfl
      refine one_ (i := 12) (N := some 32) (b_ 17 40959) rfl rfl (by kernel_rfl) (by decide) (fun K hK => ?_)
      refine goes_ Try.func26 (by kernel_rfl) rfl #[.pointer (some ⟨w.heap.size, 0, none⟩), .int .i64 1] (by rfl) rfl rfl (by simp only [List.map_toArray, List.map_cons, List.map_nil]; rfl) ?_
      with_reducible refine (num_calls w.heap.size A3 c3 b3 d3 1 _ HZ.out.box (Kd.C_below HC3.out HZ.out.bel) hc3 (by omega) HY3.out (by decide) (by decide)).mono ?_
      rw [HN4.out]
      rintro e w4 ⟨rfl, A4, c4, hb_, hC_, hc4, hg_⟩
      dsimp only at hb_ hC_ hc4
      refine ⟨_, rfl, ?_⟩
      have HZ := Aside0.mk (ZSt.call HZ.out hb_ hg_)
      have HC4 := Aside0.mk (hC_ w HC3.out)
      clear hb_ hC_ hg_
      refine hK.out _ _ trivial (fun hHeld => ?_)
      clear hK K
      refine norm_ (a' := ?_) ?_ ?_
      rotate_left
      ·
       show Act.put _ (some 32) _ = _
       simp only [Act.put, sa_, s0_, s1_, i64_w, i32_w]
       rfl
      refine pure_ (i := 13) (N := some 33) (v := ?_) (a' := ?_) (b_ 17 49151) rfl rfl (by kernel_rfl) (fun _ _ _ h => h) (Or.inl ⟨by rfl, ?_⟩) ?_ ?_
      rotate_left
      ·
       intro w'
       go_simp
       with_reducible rfl
      rotate_left
      ·
       simp only [Act.put, sa_, s0_, s1_, i64_w, i32_w]
       rfl
      refine pure_ (i := 14) (N := some 34) (v := ?_) (a' := ?_) (b_ 17 65535) rfl rfl (by kernel_rfl) (fun _ _ _ h => h) (Or.inl ⟨by rfl, ?_⟩) ?_ ?_
      rotate_left
      ·
       intro w'
       go_simp
       with_reducible rfl
      rotate_left
      ·
       simp only [Act.put, sa_, s0_, s1_, i64_w, i32_w]
       rfl
      exact norm_ (by simp only [putAll, Act.put, sa_, s0_, s1_]) (hCont gb _ ⟨A4, c4, HZ, HC4, hc4⟩)
    rintro gb w5 ⟨A4, c4, HZ, HC4, hc4⟩
    have hHeld : True := trivial
    have hz0 := (HZ.out.cell 0).trans rfl
    have hz1 := (HZ.out.cell 1).trans rfl
    have hz2 := (HZ.out.cell 2).trans rfl
    have hz3 := (HZ.out.cell 3).trans rfl
    have hzf0 := HZ.out.fr 0
    have hzf1 := HZ.out.fr 1
    have hzf2 := HZ.out.fr 2
    have hzf3 := HZ.out.fr 3
    refine norm_ (a' := ?_) ?_ ?_
    rotate_left
    ·
     simp only [putAll, Act.put, sa_, s0_, s1_]
     rfl
    refine one_ (i := 16) (N := none) (b_ 17 131071) rfl rfl (by kernel_rfl) (by decide) (fun K hK => ?_)
    refine skip_ (w1 := ?_) (by rfl) rfl ?_ ?_
    rotate_left
    ·
     go_simp
     rfl
    refine hK.out _ _ trivial (fun hHeld => ?_)
    clear hK K
    refine done_ (by kernel_rfl) ?_
    obtain ⟨W6, hW6⟩ : ∃ W6, W6 = ((((w5.setCell ⟨gb, 0, none⟩ (.string (last.extract 0 p.toNat ++ s))).setCell ⟨gb, 1, none⟩ (.int .i64 q)).setCell ⟨gb, 2, none⟩ (.bool (d == 1))).setCell ⟨gb, 3, none⟩ (.string (⟨#[]⟩ : ByteArray))) := ⟨_, rfl⟩
    have HZ6 : Aside0 (ZSt 53 w w.heap.size u5 acc gb #[.string (last.extract 0 p.toNat ++ s), .int .i64 q, .bool (d == 1), .string (⟨#[]⟩ : ByteArray)] A4 b4.length c4 d4 W6) := ⟨by rw [hW6]; exact (((HZ.out.set 0 _ rfl).set 1 _ rfl).set 2 _ rfl).set 3 _ rfl⟩
    rw [← hW6]
    clear hW6 hz0 hz1 hz2 hz3 hzf0 hzf1 hzf2 hzf3 HL HZ hHeld HN1 HN2 HN3 HN4
    obtain ⟨key, hkey⟩ : ∃ key, key = last.extract 0 p.toNat ++ s := ⟨_, rfl⟩
    rw [← hkey] at HO2 HZ6 ⊢
    obtain ⟨v, b5, d5, hn5⟩ : ∃ v b5 d5, (if d = 1 then ((⟨#[]⟩ : ByteArray), b4, d4) else txtS b4 d4) = (v, b5, d5) := ⟨_, _, _, rfl⟩
    have HO3 : Aside0 ((match (if d5 = true ∨ 64 < key.size then none else some ((⟨key, q, d == 1, v⟩ : EnT), b5)) with | none => none | some r => entsFrom dd r.1.f0 r.2 (acc ++ [r.1])) = entsFrom m ⟨#[]⟩ b0 []) := ⟨by
     have h := HO2.out
     simp only [hn5] at h
     exact h⟩
    have HN5 := Aside0.mk hn5
    have HKEY := Aside0.mk hkey
    clear hn5 HO2 hkey
    have hB5 : b5.length ≤ b4.length ∧ ∀ x ∈ b5, 0 ≤ x ∧ x ≤ 255 := by
     have h := HN5.out
     split at h
     ·
      injection h with h1 h; injection h with h2 h3; subst h2; exact ⟨Nat.le_refl _, HY4.out⟩
     ·
      have h2 := txtS_bounds b4 d4; rw [h] at h2; exact ⟨h2.1, fun x hx => HY4.out x (h2.2.1 x hx)⟩
    have HY5 := Aside0.mk hB5.2
    have hl5 := hB5.1
    clear hB5
    have hz2 := (HZ6.out.cell 2).trans rfl
    go_upto_if 37 with (fail)
    go_cut [] (fun wc => ∃ (A5 : Option Addr) (c5 : Nat), Aside0 (ZSt 53 w w.heap.size u5 acc gb #[.string key, .int .i64 q, .bool (d == 1), .string v] A5 b5.length c5 d5 wc) ∧ Aside0 (Kd.C (Kd.int .u8) w A5 b5.length b5) ∧ b5.length ≤ c5)
    case first =>
     clear hz2
     by_cases hd1 : d = 1
     ·
      have hn5 := HN5.out
      rw [if_pos hd1] at hn5
      injection hn5 with e1 e2
      injection e2 with e2 e3
      subst e1 e2 e3
      have hd2 : (d == 1) = true := beq_iff_eq.mpr hd1
      rw [hd2] at HZ6 ⊢
      clear hd1
      go_wp2
      go_meet
      case rel => exact ⟨A4, c4, ⟨by rw [hd2]; exact HZ6.out⟩, HC4, hc4⟩
     ·
      have hn5 := HN5.out
      rw [if_neg hd1] at hn5
      have HN6 := Aside0.mk hn5
      have hd2 : (d == 1) = false := beq_eq_false_iff_ne.mpr hd1
      rw [hd2] at HZ6 ⊢
      clear hd1 hn5
      go_wp2_with fail
      refine (text_calls w.heap.size A4 c4 b4 d4 _ HZ6.out.box (Kd.C_below HC4.out HZ6.out.bel) hc4 (by omega) HY4.out (fun W hg => Kd.C_below HC4.out (bel_call HZ6.out.bel HZ6.out.le hg))).mono ?_
      rw [HN6.out]
      rintro e w7 ⟨rfl, A5, c5, hb_, hC_, hc5, hg_⟩
      dsimp only at hb_ hC_ hc5 ⊢
      have HZ7 := Aside0.mk (HZ6.out.call hb_ hg_)
      have HC5 := Aside0.mk (hC_ w HC4.out)
      clear hb_ hC_ hg_
      have hz3 := (HZ7.out.cell 3).trans rfl
      have hzf3 := HZ7.out.fr 3
      go_wp2
      go_meet
      case rel => exact ⟨A5, c5, ⟨by rw [hd2]; exact HZ7.out.set 3 _ rfl⟩, HC5, hc5⟩
    case rest =>
     obtain ⟨A5, c5, HZ7, HC5, hc5⟩ := hcut
     clear HZ6 HC4 HN5 hz2
     have HBAD : Aside0 (entsFrom m ⟨#[]⟩ b0 [] = none → ([] : List EnT) = r1 ∧ (8 : Int) = r2) := ⟨fun e => by
      have h := HJ.out
      rw [e] at h
      exact ⟨(Prod.mk.inj h).1, (Prod.mk.inj h).2⟩⟩
     have hk0 := (HZ7.out.cell 0).trans rfl
     have hk1 := HZ7.out.box.c1
     cases hd5 : d5 with
     | true =>
      obtain ⟨rfl, rfl⟩ := HBAD.out (by rw [← HO3.out, if_pos (Or.inl hd5)])
      rw [hd5] at hk1
      go_wp2
      go_ret2
      exact ⟨_, rfl, Kd.R_nil _ _ _ _ _, HZ7.out.bel⟩
     | false =>
      subst hd5
      by_cases hks : 64 < key.size
      ·
       obtain ⟨rfl, rfl⟩ := HBAD.out (by rw [← HO3.out, if_pos (Or.inr hks)])
       have hks1 : decide (64 < (key.size : Int)) = true := decide_eq_true (by omega)
       go_wp2
       go_ret2
       exact ⟨_, rfl, Kd.R_nil _ _ _ _ _, HZ7.out.bel⟩
      ·
       have hks1 : decide (64 < (key.size : Int)) = false := decide_eq_false (by omega)
       have HO4 : Aside0 (entsFrom dd key b5 (acc ++ [⟨key, q, d == 1, v⟩]) = entsFrom m ⟨#[]⟩ b0 []) := ⟨by
        rw [← HO3.out, if_neg (by rintro (h | h); cases h; exact hks h)]⟩
       have hk2 := (HZ7.out.cell 1).trans rfl
       have hk3 := (HZ7.out.cell 2).trans rfl
       have hk4 := (HZ7.out.cell 3).trans rfl
       go_wp2_with (first
        | ((with_reducible refine gate_builtin (b := .append) (xs := #[.tmp 52, .tmp 54]) rfl ?_); at_builtin; refine Kd.R_append k39 (w0 := w) w.heap.size rfl (.tmp 52) (.tmp 54) 22 39 (.agg #[(.string ⟨#[]⟩), (.int .i64 0), (.bool false), (.string ⟨#[]⟩)]) 48 rfl Try.underlying22 info39 rfl (by decide) (by omega) u5 acc (⟨key, q, d == 1, v⟩ : EnT) [.string key, .int .i64 q, .bool (d == 1), .string v] (fun k => (w.heap.size ≤ k ∧ k ≠ w.heap.size) ∧ k ≠ gb) (fun _ => False) rfl (by first | (go_simp; done) | (go_simp; rfl)) ?aP (fun _ hk => hk.elim) ?aF ?aO ?aB ?aS ?aL ?_; (case aP => exact k39_mkM _ _ _ (⟨key, q, d == 1, v⟩ : EnT)); (case aF => exact fun k hk => ⟨⟨by have := HZ7.out.box.lt; omega, by have := HZ7.out.box.lt; omega⟩, by have := blk_lt HZ7.out.blk; omega⟩); (case aO => exact HZ7.out.own); (case aB => exact HZ7.out.bel); (case aS => exact below_size HZ7.out.bel); (case aL => omega); intro v6 w8 ho hb hg hat; have HL8 := Aside0.mk (HZ7.out.app ho hb hg); clear ho hb hg hat hk0 hk1 hk2 hk3 hk4 HZ7))
       refine ⟨⟨j + 1, b5, key, acc ++ [⟨key, q, d == 1, v⟩], A5, c5, by simp, rfl, by omega, by rw [List.length_append, hjl]; rfl, by omega, hc5, by omega, ⟨by rw [show m - (j + 1) = dd by omega]; exact HO4.out⟩, HY5, HC5, HL8⟩, ?_⟩
       show m - ((j : Int) + 1).toNat < m - ((j : Int)).toNat
       omega
   ·
    have hj1 : decide ((j : Int) < (m : Int)) = false := decide_eq_false (by omega)
    obtain rfl : j = m := by omega
    have HJ2 : Aside0 ((if bad = true ∨ (writeS acc).2 ≠ 0 ∨ (writeS acc).1 ≠ l0 then ([], 8) else (acc, 0)) = (r1, r2)) := ⟨by
     have h := HJ.out
     rw [← HO.out, Nat.sub_self, entsFrom] at h
     exact h⟩
    have HBAD : Aside0 ((bad = true ∨ (writeS acc).2 ≠ 0 ∨ (writeS acc).1 ≠ l0) → ([] : List EnT) = r1 ∧ (8 : Int) = r2) := ⟨fun e => by
     have h := HJ2.out
     rw [if_pos e] at h
     exact ⟨(Prod.mk.inj h).1, (Prod.mk.inj h).2⟩⟩
    obtain ⟨Av, cv, hv, hcv, hCv⟩ := Kd.R_reads HL.out.own
    subst hv
    obtain ⟨kw, hkw⟩ := (block_Write_ev acc (by omega)).rounds
    have HKW := Aside0.mk (show block_Write.f kw acc = some ((writeS acc).1, (writeS acc).2) from hkw)
    have HCV := Aside0.mk hCv
    clear hkw hCv HO HJ HBM HN HMEM
    have hal : acc.length ≤ 1024 := by omega
    clear hjl hm1 hm0 hj
    go_wp2_with fail
    refine (block_Write.calls kw Av cv acc _ _ _ HCV.out hcv HKW.out).mono ?_
    rintro e w9 ⟨va, rfl, hRa, hb9⟩
    have HL9 : Aside0 (LSt 53 w w.heap.size (.slice Av acc.length cv) acc A b.length c bad w9) := ⟨⟨HL.out.box.below hb9, Kd.R_below HL.out.own hb9, below_step HL.out.bel hb9, HL.out.le⟩⟩
    obtain ⟨Aa, ca, hva, hca, hCa⟩ := Kd.R_reads hRa
    subst hva
    have HCA := Aside0.mk hCa
    have hk1 := HL9.out.box.c1
    clear hRa hb9 hCa HL HCV HKW
    cases hbad : bad with
    | true =>
     obtain ⟨rfl, rfl⟩ := HBAD.out (Or.inl hbad)
     rw [hbad] at hk1
     go_wp2
     go_ret2
     exact ⟨_, rfl, Kd.R_nil _ _ _ _ _, HL9.out.bel⟩
    | false =>
     subst hbad
     by_cases hw2 : (writeS acc).2 = 0
     ·
      have hw2b : ((writeS acc).2 != 0) = false := bne_eq_false_iff_eq.mpr hw2
      have hsame := same_bytes (writeS_range acc) HY.out
      have HEQ : Aside0 (bytes_Equal.f (writeS acc).1 l0 = some (decide ((writeS acc).1 = l0))) := ⟨by unfold bytes_Equal.f; rw [hsame]⟩
      clear hsame
      by_cases hw1 : (writeS acc).1 = l0
      ·
       have HE : Aside0 (acc = r1 ∧ (0 : Int) = r2) := ⟨by
        have h := HJ2.out
        rw [if_neg (by rintro (h | h | h); cases h; exact h hw2; exact h hw1)] at h
        exact ⟨(Prod.mk.inj h).1, (Prod.mk.inj h).2⟩⟩
       obtain ⟨-, rfl⟩ := HE.out
       have hdec : decide ((writeS acc).1 = l0) = true := decide_eq_true hw1
       rw [hdec] at HEQ
       clear hw2 hw1 hdec
       go_wp2_with fail
       refine (bytes_Equal.calls Aa ca (writeS acc).1 A0 c0 l0 _ _ HCA.out hca (Kd.C_below HR0.out HL9.out.bel) hc0 HEQ.out).mono ?_
       rintro e w10 ⟨rfl, nd, rfl⟩
       go_wp2
       go_ret2
       refine ⟨_, rfl, ?_, pw_below_drewN HL9.out.bel _⟩
       rw [← HE.out.1]
       exact Kd.R_drewN (Kd.R_mono HL9.out.own (fun _ _ => trivial)) _
      ·
       obtain ⟨rfl, rfl⟩ := HBAD.out (Or.inr (Or.inr hw1))
       have hdec : decide ((writeS acc).1 = l0) = false := decide_eq_false hw1
       rw [hdec] at HEQ
       clear hw2 hw1 hdec
       go_wp2_with fail
       refine (bytes_Equal.calls Aa ca (writeS acc).1 A0 c0 l0 _ _ HCA.out hca (Kd.C_below HR0.out HL9.out.bel) hc0 HEQ.out).mono ?_
       rintro e w10 ⟨rfl, nd, rfl⟩
       go_wp2
       go_ret2
       exact ⟨_, rfl, Kd.R_nil _ _ _ _ _, pw_below_drewN HL9.out.bel _⟩
     ·
      obtain ⟨rfl, rfl⟩ := HBAD.out (Or.inr (Or.inl hw2))
      have hw2b : ((writeS acc).2 != 0) = true := bne_iff_ne.mpr hw2
      clear hw2
      go_wp2
      go_ret2
      exact ⟨_, rfl, Kd.R_nil _ _ _ _ _, HL9.out.bel⟩


end Go.Proofs.Ytpalnbdcemmlnaa.R

/- dag.Read: the reader of numbers, what a round holds. -/
import Derived.Test.YtoplhlacdjlidaaRx23
import Derived.Test.YtoplhlacdjlidaaRx5
import Derived.Test.YtoplhlacdjlidaaRDO
namespace Go.Proofs.Ytoplhlacdjlidaa.R
open Go.RowKit Go.Proofs.YtoplhlacdjlidaaW.PrintWords Go.Proofs.YtoplhlacdjlidaaW.PrintLast Go.Proofs.YtoplhlacdjlidaaW.PrintMore Go.Proofs.Ytoplhlacdjlidaa.Plain Go.Proofs.Ytoplhlacdjlidaa.Ret
set_option linter.unusedVariables false
set_option linter.unusedSimpArgs false

theorem or_shift (a v i : Nat) (hi : i ≤ 9) (ha : a < 128 ^ i) (hv : v < 128) (h9 : i = 9 → v ≤ 1) : Go.bits .or .u64 (a : Int) (shl .u64 (IntKind.u64.wrap (v : Int)) (wrap64 (7 * (i : Int)))) = ((a + 128 ^ i * v : Nat) : Int) := by
  have hp : (2 : Nat) ^ (7 * i) = 128 ^ i := by rw [Nat.pow_mul]
  have hb : 128 ^ i * v < 18446744073709551616 := by
    by_cases h : i = 9
    · subst h
      have := h9 rfl
      have e : (128 : Nat) ^ 9 = 9223372036854775808 := by decide
      rw [e]; omega
    · have h1 : (128 : Nat) ^ i ≤ 128 ^ 8 := Nat.pow_le_pow_right (by decide) (by omega)
      have e : (128 : Nat) ^ 8 = 72057594037927936 := by decide
      rw [e] at h1
      have := Nat.mul_le_mul h1 (Nat.le_of_lt_succ hv)
      omega
  have ha2 : a < 18446744073709551616 := by
    have h1 : (128 : Nat) ^ i ≤ 128 ^ 9 := Nat.pow_le_pow_right (by decide) hi
    have e : (128 : Nat) ^ 9 = 9223372036854775808 := by decide
    omega
  have hs : shl .u64 (IntKind.u64.wrap (v : Int)) (wrap64 (7 * (i : Int))) = ((128 ^ i * v : Nat) : Int) := by
    unfold shl
    rw [w64 (by omega) (by omega)]
    have e1 : min (7 * (i : Int)).toNat IntKind.u64.bits = 7 * i := by simp [IntKind.bits]; omega
    rw [e1]
    have e2 : (v : Int) * 2 ^ (7 * i) = ((128 ^ i * v : Nat) : Int) := by
      rw [← hp]
      push_cast
      exact Int.mul_comm _ _
    rw [u64w_in (i := (v : Int)) (by omega) (by omega), e2, u64w_in (by omega) (by omega)]
  rw [hs, (bits_nat .u64 64 (by decide) (fun n h0 h1 => u64w_in h0 (by omega)) a (128 ^ i * v) (by omega) (by omega)).2]
  congr 1
  rw [Nat.or_comm, ← hp, ← Nat.two_pow_add_eq_or_of_lt (by rw [hp]; exact ha), Nat.add_comm]
theorem rd_nat (l : List Int) (i : Nat) (h : i < l.length) : rd l (i : Int) = l[i] := by
  simp [rd, List.getD_eq_getElem?_getD, List.getElem?_eq_getElem h]
def readFrom (acc i : Nat) (l : List Int) : Int × Int × Int := match rd1 i (l.drop i) with | some p => (((acc + 128 ^ i * p.1 : Nat) : Int), ((i + p.2 : Nat) : Int), 0) | none => (0, 0, 8)
theorem code_Read_l0 (l : List Int) (hl : l.length < 9223372036854775807) (hb : ∀ x ∈ l, 0 ≤ x ∧ x ≤ 255) : ∀ (d i acc : Nat), i + d = l.length → i ≤ 9 → acc < 128 ^ i → Ev (fun k => code_Read.l0 k (acc : Int) l (l.length : Int) (i : Int)) (readFrom acc i l)
  | 0, i, acc, h, hi, ha => by
    refine Ev.step (fun _ => code_Read.l0.eq_2 ..) (ev_neg (by omega) (ev_some ?_))
    unfold readFrom
    rw [List.drop_of_length_le (by omega)]
    rfl
  | d + 1, i, acc, h, hi, ha => by
    have hlt : i < l.length := by omega
    have hx := hb _ (List.getElem_mem hlt)
    refine Ev.step (fun _ => code_Read.l0.eq_2 ..) (ev_pos (by omega) (ev_pos (by omega) (ev_pos (by omega) ?_)))
    rw [rd_nat l i hlt]
    have hrf : readFrom acc i l = match (if i = 9 ∧ 1 < l[i] then none else if l[i] < 128 then (if l[i] = 0 ∧ 0 < i then none else some ((l[i]).toNat, 1)) else (rd1 (i + 1) (l.drop (i + 1))).map fun p => ((l[i] - 128).toNat + 128 * p.1, p.2 + 1)) with | some p => (((acc + 128 ^ i * p.1 : Nat) : Int), ((i + p.2 : Nat) : Int), 0) | none => (0, 0, 8) := by
      unfold readFrom
      rw [List.drop_eq_getElem_cons hlt, rd1]
    by_cases h9 : i = 9 ∧ 1 < l[i]
    · rw [hrf, if_pos h9]
      exact ev_pos (by omega) (Ev.step (fun _ => code_Read.j1.eq_2 ..) (ev_pos (decide_eq_true (by omega)) (Ev.now _)))
    · have key : Ev (fun k => code_Read.j1 k (acc : Int) (i : Int) l[i] l (l.length : Int) (i : Int) false) (readFrom acc i l) := by
        refine Ev.step (fun _ => code_Read.j1.eq_2 ..) (ev_neg (by simp) (ev_pos (by rw [w64 (by omega) (by omega)]; omega) ?_))
        obtain ⟨v, hv⟩ := Int.eq_ofNat_of_zero_le hx.1
        rw [hrf, if_neg h9, and127 hx.1 (by omega)]
        by_cases h128 : l[i] < 128
        · rw [if_pos h128]
          have e := or_shift acc v i hi ha (by omega) (fun h => by omega)
          have em : l[i] % 128 = (v : Int) := by omega
          rw [em, e]
          refine ev_pos h128 ?_
          by_cases h0 : l[i] = 0
          · refine ev_pos h0 ?_
            by_cases hi0 : 0 < i
            · rw [if_pos (show l[i] = 0 ∧ 0 < i from ⟨h0, hi0⟩)]
              exact ev_pos (by omega) (Ev.now _)
            · rw [if_neg (show ¬ (l[i] = 0 ∧ 0 < i) by omega)]
              refine ev_neg (by omega) (ev_some ?_)
              rw [w64 (by omega) (by omega)]
              simp only [Prod.mk.injEq, and_true]
              refine ⟨?_, by omega⟩
              rw [show (l[i]).toNat = v by omega]
          · rw [if_neg (show ¬ (l[i] = 0 ∧ 0 < i) by omega)]
            refine ev_neg h0 (ev_some ?_)
            rw [w64 (by omega) (by omega)]
            simp only [Prod.mk.injEq, and_true]
            refine ⟨?_, by omega⟩
            rw [show (l[i]).toNat = v by omega]
        · rw [if_neg h128]
          obtain ⟨u, hu⟩ : ∃ u : Nat, l[i] % 128 = (u : Int) ∧ v = u + 128 := ⟨v - 128, by omega, by omega⟩
          have e := or_shift acc u i hi ha (by omega) (fun h => by omega)
          rw [hu.1, e]
          have hi8 : i ≤ 8 := by
            by_cases h9' : i = 9
            · exfalso; exact h9 ⟨h9', by omega⟩
            · omega
          refine ev_neg h128 ?_
          rw [w64 (by omega) (by omega)]
          have hacc : acc + 128 ^ i * u < 128 ^ (i + 1) := by
            have h1 : 128 ^ i * u ≤ 128 ^ i * 127 := Nat.mul_le_mul_left _ (by omega)
            rw [Nat.pow_succ]
            omega
          refine ev_eq (code_Read_l0 l hl hb d (i + 1) (acc + 128 ^ i * u) (by omega) (by omega) hacc) ?_
          unfold readFrom
          cases hr : rd1 (i + 1) (l.drop (i + 1)) with
          | none => rfl
          | some p =>
            simp only [Option.map_some, Prod.mk.injEq, and_true]
            refine ⟨?_, by omega⟩
            rw [show (l[i] - 128).toNat = u by omega, Nat.pow_succ, Nat.mul_add, Nat.mul_assoc, Nat.add_assoc]
      by_cases h9' : i = 9
      · refine ev_pos (by omega) ?_
        rw [decide_eq_false (show ¬ l[i] > 1 from fun h => h9 ⟨h9', h⟩)]
        exact key
      · exact ev_neg (by omega) key
theorem code_Read_ev (l : List Int) (hl : l.length < 9223372036854775807) (hb : ∀ x ∈ l, 0 ≤ x ∧ x ≤ 255) : Ev (fun k => code_Read.f k l) (readS l) := by
  unfold code_Read.f
  refine ev_eq (code_Read_l0 l hl hb l.length 0 0 (by omega) (by omega) (by decide)) ?_
  unfold readFrom readS
  rw [List.drop_zero]
  cases rd1 0 l with
  | none => rfl
  | some p => simp

/-! ### readers of bytes: a struct of a slice and a bool behind a pointer -/
theorem grown_none {w w1 w2 : World} {g : Nat} (h : Below w.heap.size w w1) (h2 : w1.grownBy w2 (some g)) : w.grownBy w2 (some g) :=
  ⟨h2.os.trans h.os, h2.tape.trans h.tape, h2.output.trans h.output, Nat.le_trans h.size h2.size, fun k hk hne => (h2.block k (Nat.lt_of_lt_of_le hk h.size) hne).trans (h.block k hk)⟩
theorem grown_trans {w w1 w2 : World} {g : Nat} (h : w.grownBy w1 (some g)) (h2 : w1.grownBy w2 (some g)) : w.grownBy w2 (some g) :=
  ⟨h2.os.trans h.os, h2.tape.trans h.tape, h2.output.trans h.output, Nat.le_trans h.size h2.size, fun k hk hne => (h2.block k (Nat.lt_of_lt_of_le hk h.size) hne).trans (h.block k hk hne)⟩
theorem grownBy_cell (W : World) (b i : Nat) (v : Value) : W.grownBy (W.setCell ⟨b, i, none⟩ v) (some b) :=
  ⟨rfl, rfl, rfl, (KeepsWalks.setCell W _ v).size, fun k _ hk => Below.heap_setCell _ _ _ k (fun e => hk (by rw [e]))⟩
/-- Block g holds a reader: its bytes' slice, and whether something was wrong. -/
def RSt (t : Nat) (W : World) (g : Nat) (A : Option Addr) (n c : Nat) (bad : Bool) : Prop := W.heap[g]? = some (.cells #[.slice A n c, .bool bad] t (0, 0))
section
variable {t : Nat} {W W2 : World} {g n c n' c' : Nat} {A A' : Option Addr} {bad : Bool}
theorem RSt.c0 (h : RSt t W g A n c bad) : W.cell? ⟨g, 0, none⟩ = some (.slice A n c) := (blk_cell h 0).trans rfl
theorem RSt.c1 (h : RSt t W g A n c bad) : W.cell? ⟨g, 1, none⟩ = some (.bool bad) := (blk_cell h 1).trans rfl
theorem RSt.fr (h : RSt t W g A n c bad) (i : Nat) : W.frozen? ⟨g, i, none⟩ = false := blk_frozen h i
theorem RSt.set0 (h : RSt t W g A n c bad) : RSt t (W.setCell ⟨g, 0, none⟩ (.slice A' n' c')) g A' n' c' bad := blk_put h 0 _ rfl
theorem RSt.set1 (h : RSt t W g A n c bad) (b : Bool) : RSt t (W.setCell ⟨g, 1, none⟩ (.bool b)) g A n c b := blk_put h 1 _ rfl
theorem RSt.below (h : RSt t W g A n c bad) (hb : Below W.heap.size W W2) : RSt t W2 g A n c bad := blk_below h hb
theorem RSt.lt (h : RSt t W g A n c bad) : g < W.heap.size := blk_lt h
end
/-- What a reader's method leaves: it stands so far on in its bytes. -/
def RAfter (t : Nat) (w : World) (g : Nat) (A : Option Addr) (l l' : List Int) (bad' : Bool) (w' : World) : Prop :=
  ∃ A' c', RSt t w' g A' l'.length c' bad' ∧ (∀ W : World, Kd.C (Kd.int .u8) W A l.length l → Kd.C (Kd.int .u8) W A' l'.length l') ∧ l'.length ≤ c' ∧ w.grownBy w' (some g)
theorem bel_call {w W W2 : World} {g : Nat} (hb : Below w.heap.size w W) (hle : w.heap.size ≤ g) (hg : W.grownBy W2 (some g)) : Below w.heap.size w W2 := hb.grown hg (below_size hb) (fun j e => by have := Option.some.inj e; omega)
/-! ### specs read -/
/-- The next number, at most so great: it, what is left, whether all was well. -/
def numD (most : Int) (l : List Int) (ok : Bool) : Int × List Int × Bool := match rd1 0 l with
  | some p => if most < (p.1 : Int) then (0, [], false) else ((p.1 : Int), l.drop p.2, ok)
  | none => (0, [], false)
theorem numD_bounds (most : Int) (hm : 0 ≤ most) (l : List Int) (ok : Bool) : 0 ≤ (numD most l ok).1 ∧ (numD most l ok).1 ≤ most ∧ (numD most l ok).2.1.length ≤ l.length ∧ ∀ x ∈ (numD most l ok).2.1, x ∈ l := by
  unfold numD
  split
  · split
    · exact ⟨Int.le_refl 0, hm, Nat.zero_le _, fun _ h => by cases h⟩
    · exact ⟨by simp, by dsimp only; omega, by simp only [List.length_drop]; omega, fun _ h => List.mem_of_mem_drop h⟩
  · exact ⟨Int.le_refl 0, hm, Nat.zero_le _, fun _ h => by cases h⟩
/-- So many needs. -/
def needsD : Nat → List Int → List Int → Bool → List Int × List Int × Bool
  | 0, acc, l, ok => (acc, l, ok)
  | n + 1, acc, l, ok => needsD n (acc ++ [(numD 12 l ok).1]) (numD 12 l ok).2.1 (numD 12 l ok).2.2
/-- A node. -/
def nodeD (l : List Int) (ok : Bool) : NodeT × List Int × Bool :=
  match numD 12 l ok with
  | (n, l1, o1) => match needsD n.toNat [] l1 o1 with
    | (x, l2, o2) => match numD 5 l2 o2 with
      | (t, l3, o3) => match numD 1048576 l3 o3 with
        | (q, l4, o4) => (⟨x, t, q⟩, l4, o4)
/-- So many nodes. -/
def nodesD : Nat → List NodeT → List Int → Bool → List NodeT × List Int × Bool
  | 0, acc, l, ok => (acc, l, ok)
  | n + 1, acc, l, ok => nodesD n (acc ++ [(nodeD l ok).1]) (nodeD l ok).2.1 (nodeD l ok).2.2
/-- The spec of bytes, or the error. -/
def readD (l : List Int) : List NodeT × Int :=
  if 16384 < l.length then ([], 3)
  else match numD 12 l true with
    | (m, l1, o1) => match nodesD m.toNat [] l1 o1 with
      | (x, l2, o2) => if o2 = false ∨ 0 < l2.length ∨ checkS x ≠ 0 then ([], 8) else (x, 0)

/-! ### this program's reader of numbers -/
theorem C_nil_ (W : World) : Kd.C (Kd.int .u8) W none ([] : List Int).length [] := ⟨rfl, by decide, fun h => absurd h (Nat.lt_irrefl 0)⟩
theorem num_calls (g : Nat) (A : Option Addr) (c : Nat) (l : List Int) (ok : Bool) (most : Int) (w : World) (hb : RSt 60 w g A l.length c ok) (hr : Kd.C (Kd.int .u8) w A l.length l) (hc : l.length ≤ c) (hl : l.length ≤ 140737488351232) (hy : ∀ x ∈ l, 0 ≤ x ∧ x ≤ 255) (hm0 : 0 ≤ most) (hm1 : most < 9223372036854775808) :
    Calls Try.prog 32 #[.pointer (some ⟨g, 0, none⟩), .int .i64 most] w fun e w' => e = .returned (.int .i64 (numD most l ok).1) ∧ RAfter 60 w g A l (numD most l ok).2.1 (numD most l ok).2.2 w' := by
  obtain ⟨k1, hk1⟩ := (code_Read_ev l (by omega) hy).rounds
  have hcell := hb.c0
  have HR := Aside0.mk hr
  have HB := Aside0.mk hb
  have HYY := Aside0.mk hy
  have hmw : IntKind.u64.wrap most = most := u64w_in hm0 (by omega)
  clear hr hb hy
  cases hp : rd1 0 l with
  | none =>
    have hs : numD most l ok = (0, [], false) := by unfold numD; rw [hp]
    rw [hs]
    have HK := Aside0.mk (show code_Read.f k1 l = some (0, 0, 8) by rw [hk1]; unfold readS; rw [hp])
    clear hk1 hs hp
    go_enter Try.func32, Try.ntmps32
    go_wp2_with fail
    refine (code_Read.calls k1 A c l 0 0 8 _ HR.out hc HK.out).mono ?_
    rintro e w1 ⟨rfl, hb1⟩
    have HB1 := Aside0.mk (HB.out.below hb1)
    have HL := Aside0.mk hb1
    have hcell1 := HB1.out.c1
    have hcell0 := HB1.out.c0
    have hfr1 := HB1.out.fr 1
    have hfr0 := HB1.out.fr 0
    clear hb1 hcell
    go_wp2
    go_ret
    exact ⟨rfl, none, 0, (HB1.out.set1 false).set0, fun W _ => C_nil_ W, Nat.le_refl _, grown_none HL.out (grown_trans (grownBy_cell _ _ _ _) (grownBy_cell _ _ _ _))⟩
  | some p =>
    obtain ⟨pv, pn⟩ := p
    have hpl := rd1_len hp
    have hpv : (pv : Int) < 18446744073709551616 := by
      have := (rd1_only0 HYY.out hp).2.1
      omega
    dsimp only at hpl
    have HK := Aside0.mk (show code_Read.f k1 l = some ((pv : Int), (pn : Int), 0) by rw [hk1]; unfold readS; rw [hp])
    by_cases hbig : most < (pv : Int)
    · have hs : numD most l ok = (0, [], false) := by unfold numD; rw [hp]; exact if_pos hbig
      rw [hs]
      have c2 : decide (most < (pv : Int)) = true := decide_eq_true hbig
      clear hk1 hs hp
      go_enter Try.func32, Try.ntmps32
      go_wp2_with fail
      refine (code_Read.calls k1 A c l _ _ _ _ HR.out hc HK.out).mono ?_
      rintro e w1 ⟨rfl, hb1⟩
      have HB1 := Aside0.mk (HB.out.below hb1)
      have HL := Aside0.mk hb1
      have hcell1 := HB1.out.c1
      have hcell0 := HB1.out.c0
      have hfr1 := HB1.out.fr 1
      have hfr0 := HB1.out.fr 0
      clear hb1 hcell
      go_wp2
      go_ret
      exact ⟨rfl, none, 0, (HB1.out.set1 false).set0, fun W _ => C_nil_ W, Nat.le_refl _, grown_none HL.out (grown_trans (grownBy_cell _ _ _ _) (grownBy_cell _ _ _ _))⟩
    · have hs : numD most l ok = ((pv : Int), l.drop pn, ok) := by unfold numD; rw [hp]; exact if_neg hbig
      rw [hs]
      have c2 : decide (most < (pv : Int)) = false := decide_eq_false hbig
      obtain ⟨l1, hl1⟩ : ∃ l1, l1 = l.drop pn := ⟨_, rfl⟩
      obtain ⟨A1, hA1⟩ : ∃ A1, A1 = (if c = pn then A else A.map (·.add (pn * 1))) := ⟨_, rfl⟩
      obtain ⟨c1, hc1⟩ : ∃ c1, c1 = c - pn := ⟨_, rfl⟩
      have hl1n : l1.length = l.length - pn := by rw [hl1, List.length_drop]
      have HC1 : Aside0 (∀ W : World, Kd.C (Kd.int .u8) W A l.length l → Kd.C (Kd.int .u8) W A1 l1.length l1) := ⟨fun W h => by rw [hA1, hl1]; exact Kd.C_drop h hpl.2 hc⟩
      have hr1 : l1.length ≤ c1 := by omega
      have hcut1 : ∀ W : World, (Instr.slice 22 (.slice A l.length c) (some (.int .i64 (pn : Int))) none none).run Try.prog W = .ok (.slice A1 l1.length c1) W := fun W => by
        obtain ⟨i0, hi0, _, hsz0, _⟩ := info_parts info5
        have := cut_from (P := Try.prog) 22 5 .i64 Try.underlying22 hi0 1 hsz0 A l.length c (pn : Int) (by omega) (by omega) W
        rw [Int.toNat_natCast, ← hl1n, ← hA1, ← hc1] at this
        exact this
      rw [← hl1]
      have hpv2 : (pv : Int) < 9223372036854775808 := by omega
      have p1 : decide (0 ≤ (pn : Int)) = true := decide_eq_true (by omega)
      have p2 : decide ((pn : Int) ≤ (l.length : Int)) = true := decide_eq_true (by omega)
      clear hk1 hs hp hl1n hl1 hA1 hc1
      go_enter Try.func32, Try.ntmps32
      go_wp2_with fail
      refine (code_Read.calls k1 A c l _ _ _ _ HR.out hc HK.out).mono ?_
      rintro e w1 ⟨rfl, hb1⟩
      have HB1 := Aside0.mk (HB.out.below hb1)
      have HL := Aside0.mk hb1
      have hcell1 := HB1.out.c0
      have hfr1 := HB1.out.fr 0
      clear hb1 hcell
      go_wp2
      go_ret
      exact ⟨rfl, A1, c1, HB1.out.set0, HC1.out, hr1, grown_none HL.out (grownBy_cell _ _ _ _)⟩

/-! ### what a round of Read holds -/
/-- Between nodes: the result's box, the reader, the spec's box, and the nodes. -/
structure DSt (w : World) (gr g gs : Nat) (v : Value) (acc : List NodeT) (A : Option Addr) (n c : Nat) (ok : Bool) (W : World) : Prop where
  res : W.heap[gr]? = some (.cells #[.slice none 0 0] 25 (0, 0))
  box : RSt 60 W g A n c ok
  blk : W.heap[gs]? = some (.cells #[v] 25 (0, 0))
  own : Kd.S k40 40 W w.heap.size (fun k => w.heap.size ≤ k) v acc
  bel : Below w.heap.size w W
  ler : w.heap.size ≤ gr
  le : w.heap.size ≤ g
  les : w.heap.size ≤ gs
  nrg : gr ≠ g
  nrs : gr ≠ gs
  nsg : gs ≠ g
/-- Within one: its box, too, and its needs. -/
structure NSt (w : World) (gr g gs gn : Nat) (v : Value) (acc : List NodeT) (cs : Array Value) (u : Value) (x : List Int) (A : Option Addr) (n c : Nat) (ok : Bool) (W : World) : Prop where
  res : W.heap[gr]? = some (.cells #[.slice none 0 0] 25 (0, 0))
  box : RSt 60 W g A n c ok
  blk : W.heap[gs]? = some (.cells #[v] 25 (0, 0))
  nod : W.heap[gn]? = some (.cells cs 40 (0, 0))
  own : Kd.S k40 40 W w.heap.size (fun k => (w.heap.size ≤ k ∧ k ≠ gn) ∧ some k ≠ u.ownBlock) v acc
  nds : Kd.R (Kd.int .i64) 3 W w.heap.size (fun k => w.heap.size ≤ k) u x
  bel : Below w.heap.size w W
  ler : w.heap.size ≤ gr
  le : w.heap.size ≤ g
  les : w.heap.size ≤ gs
  len : w.heap.size ≤ gn
  nrg : gr ≠ g
  nrs : gr ≠ gs
  nsg : gs ≠ g
  nrn : gr ≠ gn
  ngn : g ≠ gn
  nsn : gs ≠ gn
section
variable {w W W2 : World} {gr g gs gn n c n2 c2 : Nat} {v u : Value} {acc : List NodeT} {x : List Int} {cs : Array Value} {A A2 : Option Addr} {ok ok2 : Bool}
theorem DSt.start {w1 w2 w3 : World} (h1 : gr = w.heap.size) (b1 : w1.heap[gr]? = some (.cells #[.slice none 0 0] 25 (0, 0))) (B1 : Below w.heap.size w w1) (h2 : g = w1.heap.size) (b2 : w2.heap[g]? = some (.cells #[.slice A n c, .bool ok] 60 (0, 0))) (B2 : Below w1.heap.size w1 w2)
    (h3 : gs = w2.heap.size) (b3 : w3.heap[gs]? = some (.cells #[.slice none 0 0] 25 (0, 0))) (B3 : Below w2.heap.size w2 w3) : DSt w gr g gs (.slice none 0 0) [] A n c ok w3 where
  res := blk_below (blk_below b1 B2) B3
  box := RSt.below b2 B3
  blk := b3
  own := Kd.S_nil _ _ _ _ _
  bel := below_step (below_step B1 B2) B3
  ler := Nat.le_of_eq h1.symm
  le := by rw [h2]; exact below_size B1
  les := by rw [h3]; exact Nat.le_trans (below_size B1) (below_size B2)
  nrg := by have := blk_lt b1; omega
  nrs := by have := blk_lt b1; have := below_size B2; omega
  nsg := by have := blk_lt b2; omega
theorem DSt.drew (h : DSt w gr g gs v acc A n c ok W) : DSt w gr g gs v acc A n c ok W.drew := ⟨h.res, h.box, h.blk, Kd.S_drew h.own, below_drew1 h.bel, h.ler, h.le, h.les, h.nrg, h.nrs, h.nsg⟩
theorem DSt.below (h : DSt w gr g gs v acc A n c ok W) (hb : Below W.heap.size W W2) : DSt w gr g gs v acc A n c ok W2 where
  res := blk_below h.res hb
  box := h.box.below hb
  blk := blk_below h.blk hb
  own := Kd.S_below h.own hb
  bel := below_step h.bel hb
  ler := h.ler
  le := h.le
  les := h.les
  nrg := h.nrg
  nrs := h.nrs
  nsg := h.nsg
theorem DSt.call (h : DSt w gr g gs v acc A n c ok W) (hb : RSt 60 W2 g A2 n2 c2 ok2) (hg : W.grownBy W2 (some g)) : DSt w gr g gs v acc A2 n2 c2 ok2 W2 where
  res := blk_grown h.res hg (fun e => h.nrg (Option.some.inj e))
  box := hb
  blk := blk_grown h.blk hg (fun e => h.nsg (Option.some.inj e))
  own := Kd.S_mono (Kd.S_grown (Kd.S_types h.own (show W.heap[g]? = some (.cells _ 60 (0, 0)) from h.box) (by decide)) hg (fun _ hk e => hk.2 (Option.some.inj e))) (fun _ hk => hk.1)
  bel := bel_call h.bel h.le hg
  ler := h.ler
  le := h.le
  les := h.les
  nrg := h.nrg
  nrs := h.nrs
  nsg := h.nsg
theorem DSt.new (h : DSt w gr g gs v acc A n c ok W) (h2 : Below W.heap.size W W2) (e : gn = W.heap.size) (hk : W2.heap[gn]? = some (.cells cs 40 (0, 0))) : NSt w gr g gs gn v acc cs (.slice none 0 0) [] A n c ok W2 where
  res := blk_below h.res h2
  box := h.box.below h2
  blk := blk_below h.blk h2
  nod := hk
  own := Kd.S_mono (Kd.S_below (Kd.S_elderB h.own gn (Nat.le_of_eq e.symm)) h2) (fun k hk => ⟨hk, by simp [Value.ownBlock]⟩)
  nds := Kd.R_nil _ _ _ _ _
  bel := below_step h.bel h2
  ler := h.ler
  le := h.le
  les := h.les
  len := by rw [e]; exact below_size h.bel
  nrg := h.nrg
  nrs := h.nrs
  nsg := h.nsg
  nrn := by have := blk_lt h.res; omega
  ngn := by have := h.box.lt; omega
  nsn := by have := blk_lt h.blk; omega
theorem NSt.drew (h : NSt w gr g gs gn v acc cs u x A n c ok W) : NSt w gr g gs gn v acc cs u x A n c ok W.drew := ⟨h.res, h.box, h.blk, h.nod, Kd.S_drew h.own, Kd.R_drew h.nds, below_drew1 h.bel, h.ler, h.le, h.les, h.len, h.nrg, h.nrs, h.nsg, h.nrn, h.ngn, h.nsn⟩
theorem NSt.below (h : NSt w gr g gs gn v acc cs u x A n c ok W) (hb : Below W.heap.size W W2) : NSt w gr g gs gn v acc cs u x A n c ok W2 :=
  ⟨blk_below h.res hb, h.box.below hb, blk_below h.blk hb, blk_below h.nod hb, Kd.S_below h.own hb, Kd.R_below h.nds hb, below_step h.bel hb, h.ler, h.le, h.les, h.len, h.nrg, h.nrs, h.nsg, h.nrn, h.ngn, h.nsn⟩
theorem NSt.call (h : NSt w gr g gs gn v acc cs u x A n c ok W) (hb : RSt 60 W2 g A2 n2 c2 ok2) (hg : W.grownBy W2 (some g)) : NSt w gr g gs gn v acc cs u x A2 n2 c2 ok2 W2 :=
  ⟨blk_grown h.res hg (fun e => h.nrg (Option.some.inj e)), hb, blk_grown h.blk hg (fun e => h.nsg (Option.some.inj e)), blk_grown h.nod hg (fun e => h.ngn (Option.some.inj e).symm),
   Kd.S_mono (Kd.S_grown (Kd.S_types h.own (show W.heap[g]? = some (.cells _ 60 (0, 0)) from h.box) (by decide)) hg (fun _ hk e => hk.2 (Option.some.inj e))) (fun _ hk => hk.1),
   Kd.R_mono (Kd.R_grown (Kd.R_types h.nds (show W.heap[g]? = some (.cells _ 60 (0, 0)) from h.box) (by decide)) hg (fun _ hk e => hk.2 (Option.some.inj e))) (fun _ hk => hk.1),
   bel_call h.bel h.le hg, h.ler, h.le, h.les, h.len, h.nrg, h.nrs, h.nsg, h.nrn, h.ngn, h.nsn⟩
theorem NSt.cell (h : NSt w gr g gs gn v acc cs u x A n c ok W) (i : Nat) : W.cell? ⟨gn, i, none⟩ = cs[i]? := blk_cell h.nod i
theorem NSt.fr (h : NSt w gr g gs gn v acc cs u x A n c ok W) (i : Nat) : W.frozen? ⟨gn, i, none⟩ = false := blk_frozen h.nod i
theorem NSt.set (h : NSt w gr g gs gn v acc cs u x A n c ok W) (i : Nat) (y : Value) {cs' : Array Value} (e : cs.setIfInBounds i y = cs') : NSt w gr g gs gn v acc cs' u x A n c ok (W.setCell ⟨gn, i, none⟩ y) :=
  ⟨blk_far (p := ⟨gn, i, none⟩) h.res h.nrn _, blk_far (p := ⟨gn, i, none⟩) h.box h.ngn _, blk_far (p := ⟨gn, i, none⟩) h.blk h.nsn _, blk_put h.nod i y e,
   Kd.S_far (p := ⟨gn, i, none⟩) h.own (fun _ hk => hk.1.2) _, Kd.R_mono (Kd.R_set h.nds h.nod (by decide) i y) (fun _ hk => hk), below_set h.bel h.len, h.ler, h.le, h.les, h.len, h.nrg, h.nrs, h.nsg, h.nrn, h.ngn, h.nsn⟩
/-- Behind a need's append. -/
theorem NSt.app (h : NSt w gr g gs gn v acc cs u x A n c ok W) {u2 : Value} {x2 : List Int} (ho : Kd.R (Kd.int .i64) 3 W2 w.heap.size (fun k => w.heap.size ≤ k) u2 x2) (hb : Below w.heap.size w W2) (hg : W.grownBy W2 u.ownBlock)
    (hat : u2.ownBlock = u.ownBlock ∨ ∃ b, u2.ownBlock = some b ∧ W.heap.size ≤ b) : NSt w gr g gs gn v acc cs u2 x2 A n c ok W2 :=
  ⟨blk_grown h.res hg (Kd.R_ne h.nds h.res (by decide)), blk_grown h.box hg (Kd.R_ne h.nds (show W.heap[g]? = some (.cells _ 60 (0, 0)) from h.box) (by decide)), blk_grown h.blk hg (Kd.R_ne h.nds h.blk (by decide)), blk_grown h.nod hg (Kd.R_ne h.nds h.nod (by decide)),
   Kd.S_after (ok := fun k => w.heap.size ≤ k ∧ k ≠ gn) h.own hg hat, ho, hb, h.ler, h.le, h.les, h.len, h.nrg, h.nrs, h.nsg, h.nrn, h.ngn, h.nsn⟩
/-- Behind the node's append. -/
theorem NSt.done (h : NSt w gr g gs gn v acc cs u x A n c ok W) {v2 : Value} {acc2 : List NodeT} (ho : Kd.S k40 40 W2 w.heap.size (fun k => w.heap.size ≤ k ∧ k ≠ gn) v2 acc2) (hb : Below w.heap.size w W2) (hg : W.grownBy W2 v.ownBlock) :
    DSt w gr g gs v2 acc2 A n c ok (W2.setCell ⟨gs, 0, none⟩ v2) where
  res := blk_far (p := ⟨gs, 0, none⟩) (blk_grown h.res hg (Kd.S_ne h.own h.res (by decide))) h.nrs _
  box := blk_far (p := ⟨gs, 0, none⟩) (blk_grown h.box hg (Kd.S_ne h.own (show W.heap[g]? = some (.cells _ 60 (0, 0)) from h.box) (by decide))) (Ne.symm h.nsg) _
  blk := blk_put (blk_grown h.blk hg (Kd.S_ne h.own h.blk (by decide))) 0 _ rfl
  own := Kd.S_mono (Kd.S_set ho (blk_grown h.blk hg (Kd.S_ne h.own h.blk (by decide))) (by decide) 0 _) (fun _ hk => hk.1)
  bel := below_set hb h.les
  ler := h.ler
  le := h.le
  les := h.les
  nrg := h.nrg
  nrs := h.nrs
  nsg := h.nsg
/-- The result's store, and the state's cells. -/
theorem DSt.cellS (h : DSt w gr g gs v acc A n c ok W) : W.cell? ⟨gs, 0, none⟩ = some v := (blk_cell h.blk 0).trans rfl
theorem DSt.cellR (h : DSt w gr g gs v acc A n c ok W) : W.cell? ⟨gr, 0, none⟩ = some (.slice none 0 0) := (blk_cell h.res 0).trans rfl
theorem NSt.cellS (h : NSt w gr g gs gn v acc cs u x A n c ok W) : W.cell? ⟨gs, 0, none⟩ = some v := (blk_cell h.blk 0).trans rfl
end
end Go.Proofs.Ytoplhlacdjlidaa.R

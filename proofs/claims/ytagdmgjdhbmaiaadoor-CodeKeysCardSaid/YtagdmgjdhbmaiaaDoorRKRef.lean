/- The document's keys. -/
import Derived.Test.YtagdmgjdhbmaiaaDoorRx14
import Derived.Test.YtagdmgjdhbmaiaaDoorRx16
import Derived.Test.YtagdmgjdhbmaiaaDoorRx15
import Derived.Test.YtagdmgjdhbmaiaaDoorRx13
import Derived.Test.YtagdmgjdhbmaiaaDoorRKRound
namespace Go.Proofs.YtagdmgjdhbmaiaaDoor.R
open Go.RowKit Go.Proofs.YtagdmgjdhbmaiaaDoorW.PrintWords Go.Proofs.YtagdmgjdhbmaiaaDoorW.PrintLast Go.Proofs.YtagdmgjdhbmaiaaDoorW.PrintMore Go.Proofs.YtagdmgjdhbmaiaaDoor.Plain
set_option linter.unusedVariables false
set_option linter.unusedSimpArgs false

/-! ### the document's keys -/
theorem may_eq (p : PartT) : millhandref01_May.f p.f0 p.f1 p.f2 = some (!(badP p)) := by
  unfold millhandref01_May.f badP
  by_cases ht : p.f0 = true
  · rw [if_pos ht, if_pos ht]
    by_cases h : p.f1 = 0 <;> simp [h]
  · rw [if_neg ht, if_neg ht]
    simp
theorem tmod256 (x : Int) : (Int.tmod x 256) % 256 = x % 256 := by
  have := Int.tmod_add_mul_tdiv x 256
  omega
theorem part_l0 (t : Bool) (x : Int) (s : ByteArray) (b : List Int) (hb : b.length ≤ 100000) : Ev (fun k => millhandref01_part.l0 k b 56 t x s) (b ++ be8 x) := by
  have st : ∀ (b : List Int) (i : Int) (r : List Int), b.length ≤ 200000 → 0 ≤ i → i ≤ 56 → Ev (fun k => millhandref01_part.l0 k (b ++ [shr .u64 x i % 256]) (i - 8) t x s) r → Ev (fun k => millhandref01_part.l0 k b i t x s) r := by
    intro b i r hb h0 h1 hr
    refine Ev.step (fun _ => millhandref01_part.l0.eq_2 ..) (ev_pos (by omega) (ev_pos (by rw [u64w_in h0 (by omega)]; omega) (ev_pos (by omega) ?_)))
    rw [w64 (by omega) (by omega), u64w_in h0 (by omega), tmod256]
    exact hr
  have e : b ++ be8 x = b ++ [shr .u64 x 56 % 256] ++ [shr .u64 x 48 % 256] ++ [shr .u64 x 40 % 256] ++ [shr .u64 x 32 % 256] ++ [shr .u64 x 24 % 256] ++ [shr .u64 x 16 % 256] ++ [shr .u64 x 8 % 256] ++ [shr .u64 x 0 % 256] := by
    simp [be8, shr, IntKind.bits]
  rw [e]
  refine st b 56 _ (by omega) (by omega) (by omega) (st _ 48 _ ?_ (by omega) (by omega) (st _ 40 _ ?_ (by omega) (by omega) (st _ 32 _ ?_ (by omega) (by omega) (st _ 24 _ ?_ (by omega) (by omega) (st _ 16 _ ?_ (by omega) (by omega) (st _ 8 _ ?_ (by omega) (by omega) (st _ 0 _ ?_ (by omega) (by omega) ?_)))))))
  case refine_8 => exact Ev.step (fun _ => millhandref01_part.l0.eq_2 ..) (ev_neg (by omega) (Ev.now _))
  all_goals (simp only [List.length_append, List.length_cons, List.length_nil]; omega)
def escL (l : List UInt8) : List Int := (Esc.esc l).map fun b => (b.toNat : Int)
theorem part_l1 (t : Bool) (x : Int) (s : ByteArray) (hs : s.size ≤ 100000) : ∀ (d i : Nat) (b : List Int), i + d = s.size → b.length ≤ 2 * i + 1000 → Ev (fun k => millhandref01_part.l1 k b (i : Int) t x s) (b ++ escL (s.data.toList.drop i) ++ [0, 0])
  | 0, i, b, h, hb => by
    have e : s.data.toList.drop i = [] := List.drop_eq_nil_of_le (by rw [← Lib.size_eq]; omega)
    rw [e]
    refine Ev.step (fun _ => millhandref01_part.l1.eq_2 ..) (ev_neg (by omega) ?_)
    simp only [Option.bind_some]
    refine ev_pos (by simp only [List.length_cons, List.length_nil]; omega) (ev_some ?_)
    simp [escL, Esc.esc]
  | d + 1, i, b, h, hb => by
    have hi : i < s.data.toList.length := by rw [← Lib.size_eq]; omega
    refine Ev.step (fun _ => millhandref01_part.l1.eq_2 ..) (ev_pos (by omega) (ev_pos (by omega) (ev_pos (by omega) ?_)))
    have e1 : (i : Int) + 1 = ((i + 1 : Nat) : Int) := by omega
    have hv := (s.data.toList[i]).toNat_lt
    simp only [Option.bind_some]
    rw [w64 (by omega) (by omega), bt_nat s i (by omega), List.drop_eq_getElem_cons hi, e1]
    by_cases h0 : s.data.toList[i] = 0
    · refine ev_pos (by rw [h0]; rfl) (ev_pos (by simp only [List.length_append, List.length_cons, List.length_nil]; omega) ?_)
      have := part_l1 t x s hs d (i + 1) (b ++ [((s.data.toList[i]).toNat : Int)] ++ [255]) (by omega) (by simp only [List.length_append, List.length_cons, List.length_nil]; omega)
      refine ev_eq this ?_
      simp [escL, Esc.esc, h0]
    · refine ev_neg (fun e => h0 (UInt8.toNat_inj.mp (by have : (0 : UInt8).toNat = 0 := rfl; omega))) ?_
      have := part_l1 t x s hs d (i + 1) (b ++ [((s.data.toList[i]).toNat : Int)]) (by omega) (by simp only [List.length_append, List.length_cons, List.length_nil]; omega)
      refine ev_eq this ?_
      rw [escL, escL, Esc.esc, if_neg h0]
      simp
theorem ref_part_ev (p : PartT) (hs : p.f2.size ≤ 100000) : Ev (fun k => millhandref01_part.f k p.f0 p.f1 p.f2) (partL p) := by
  unfold millhandref01_part.f partL
  by_cases ht : p.f0 = true
  · rw [if_pos ht]
    refine ev_pos ht (ev_pos (by simp) ?_)
    have := part_l1 p.f0 p.f1 p.f2 hs p.f2.size 0 [2] (by omega) (by simp)
    refine ev_eq this ?_
    simp [escL, bytesOf_map, Esc.escB]
  · rw [if_neg ht]
    refine ev_neg ht (ev_pos (by simp) ?_)
    exact part_l0 p.f0 p.f1 p.f2 [1] (by simp)
theorem ref_key_l1 (l : List PartT) (hl : l.length ≤ 8) : ∀ (d i : Nat) (b : List Int), i + d = l.length → b.length ≤ 1000 * i →
    Ev (fun k => millhandref01_Key.l1 k l b (i : Int)) (if (l.drop i).any bigP then (⟨#[]⟩, 3) else keyEnd (b ++ keyL (l.drop i)))
  | 0, i, b, h, hb => by
    have e : l.drop i = [] := List.drop_eq_nil_of_le (by omega)
    rw [e]
    simp only [List.any_nil, Bool.false_eq_true, if_false, keyL, List.flatMap_nil, List.append_nil, keyEnd]
    refine Ev.step (fun _ => millhandref01_Key.l1.eq_2 ..) (ev_neg (by omega) ?_)
    by_cases h6 : 64 < b.length
    · rw [if_pos h6]
      exact ev_pos (by omega) (Ev.now _)
    · rw [if_neg h6]
      exact ev_neg (by omega) (Ev.now _)
  | d + 1, i, b, h, hb => by
    have hi : i < l.length := by omega
    have e : l.drop i = l[i] :: l.drop (i + 1) := List.drop_eq_getElem_cons hi
    refine Ev.step (fun _ => millhandref01_Key.l1.eq_2 ..) (ev_pos (by omega) (ev_pos (by omega) ?_))
    rw [rd_part l i hi, e, List.any_cons]
    by_cases h6 : 64 < l[i].f2.size
    · rw [show bigP l[i] = true from decide_eq_true h6, Bool.true_or, if_pos rfl]
      exact ev_pos (by omega) (Ev.now _)
    · rw [show bigP l[i] = false from decide_eq_false h6, Bool.false_or]
      have hlen := partL_length l[i]
      have ih := ref_key_l1 l hl d (i + 1) (b ++ partL l[i]) (by omega) (by rw [List.length_append]; omega)
      have ek : keyL (l[i] :: l.drop (i + 1)) = partL l[i] ++ keyL (l.drop (i + 1)) := by simp only [keyL, List.flatMap_cons]
      rw [ek, ← List.append_assoc]
      have hw : wrap64 ((i : Int) + 1) = ((i + 1 : Nat) : Int) := by rw [w64 (by omega) (by omega)]; omega
      refine ev_neg (by omega) (Ev.bind (ref_part_ev l[i] (by omega)) (ev_pos (by omega) ?_))
      rw [hw]
      exact ih
theorem ref_key_l0 (l : List PartT) (hl : l.length ≤ 8) : ∀ (d i : Nat), i + d = l.length →
    Ev (fun k => millhandref01_Key.l0 k l (i : Int)) (if (l.drop i).any badP then (⟨#[]⟩, 8) else if l.any bigP then (⟨#[]⟩, 3) else keyEnd (keyL l))
  | 0, i, h => by
    have e : l.drop i = [] := List.drop_eq_nil_of_le (by omega)
    rw [e]
    simp only [List.any_nil, Bool.false_eq_true, if_false]
    refine Ev.step (fun _ => millhandref01_Key.l0.eq_2 ..) (ev_neg (by omega) ?_)
    have := ref_key_l1 l hl l.length 0 [] (by omega) (by simp)
    simpa using this
  | d + 1, i, h => by
    have hi : i < l.length := by omega
    have e : l.drop i = l[i] :: l.drop (i + 1) := List.drop_eq_getElem_cons hi
    refine Ev.step (fun _ => millhandref01_Key.l0.eq_2 ..) (ev_pos (by omega) (ev_pos (by omega) ?_))
    have hw : wrap64 ((i : Int) + 1) = ((i + 1 : Nat) : Int) := by rw [w64 (by omega) (by omega)]; omega
    rw [rd_part l i hi, e, List.any_cons, hw]
    simp only [may_eq, Option.bind_some]
    cases hb : badP l[i] with
    | true =>
      rw [Bool.true_or, if_pos rfl]
      exact ev_neg (by decide) (Ev.now _)
    | false =>
      rw [Bool.false_or]
      exact ev_pos (by decide) (ref_key_l0 l hl d (i + 1) (by omega))
theorem ref_Key_ev (l : List PartT) : Ev (fun k => millhandref01_Key.f k l) (keyS l) := by
  unfold millhandref01_Key.f keyS
  by_cases h0 : l.length = 0
  · rw [if_pos (Or.inl h0)]
    exact ev_pos (by omega) (Ev.step (fun _ => millhandref01_Key.j0.eq_2 ..) (ev_pos rfl (Ev.now _)))
  · refine ev_neg (by omega) ?_
    by_cases h8 : 8 < l.length
    · rw [if_pos (Or.inr h8)]
      exact Ev.step (fun _ => millhandref01_Key.j0.eq_2 ..) (ev_pos (decide_eq_true (by omega)) (Ev.now _))
    · rw [if_neg (by omega)]
      refine Ev.step (fun _ => millhandref01_Key.j0.eq_2 ..) (ev_neg (by simp; omega) ?_)
      have := ref_key_l0 l (by omega) l.length 0 (by omega)
      simpa using this

/-! ### the document's parts -/
def oneR (x : ByteArray) : Bool × Int × ByteArray × Int × Bool := match oneS x.data.toList with
  | some (p, q) => (p.f0, p.f1, p.f2, (x.size : Int) - (q.length : Int), true)
  | none => (false, 0, ⟨#[]⟩, 0, false)
theorem one_l0 (x : ByteArray) (hx : 9 ≤ x.size) : ∀ (d i n : Nat), i + d = 8 → n < 256 ^ i →
    Ev (fun k => millhandref01_one.l0 k x (n : Int) ((i + 1 : Nat) : Int)) (false, un8 ((x.data.toList.drop (i + 1)).take d) (n : Int), ⟨#[]⟩, 9, true)
  | 0, i, n, h, hn => Ev.step (fun _ => millhandref01_one.l0.eq_2 ..) (ev_neg (by omega) (ev_some (by rw [List.take_zero]; rfl)))
  | d + 1, i, n, h, hn => by
    have hi : i + 1 < x.data.toList.length := by rw [← Lib.size_eq]; omega
    refine Ev.step (fun _ => millhandref01_one.l0.eq_2 ..) (ev_pos (by omega) (ev_pos (by omega) (ev_pos (by omega) ?_)))
    have hn7 : n < 72057594037927936 := by
      have h1 : (256 : Nat) ^ i ≤ 256 ^ 7 := Nat.pow_le_pow_right (by decide) (by omega)
      have e : (256 : Nat) ^ 7 = 72057594037927936 := by decide
      omega
    have hv := (x.data.toList[i + 1]).toNat_lt
    rw [w64 (by omega) (by omega), bt_nat x (i + 1) (by omega), u64w_in (i := (n : Int) * 256) (by omega) (by omega), u64w_in (i := ((x.data.toList[i + 1]).toNat : Int)) (by omega) (by omega), u64w_in (by omega) (by omega)]
    have e1 : (n : Int) * 256 + ((x.data.toList[i + 1]).toNat : Int) = ((n * 256 + (x.data.toList[i + 1]).toNat : Nat) : Int) := by omega
    have e2 : ((i + 1 : Nat) : Int) + 1 = ((i + 1 + 1 : Nat) : Int) := by omega
    rw [List.drop_eq_getElem_cons hi, List.take_succ_cons, un8, e1, e2]
    refine one_l0 x hx d (i + 1) _ (by omega) ?_
    rw [Nat.pow_succ]
    omega
def oneT (x : ByteArray) (o : Option (List UInt8 × List UInt8)) : Bool × Int × ByteArray × Int × Bool := match o with
  | some (a, q) => (true, 0, ⟨a.toArray⟩, (x.size : Int) - (q.length : Int), true)
  | none => (false, 0, ⟨#[]⟩, 0, false)
theorem one_l1 (x : ByteArray) (hx : x.size ≤ 64) : ∀ (d i : Nat) (acc : List UInt8), i + d = x.size → acc.length ≤ i →
    Ev (fun k => millhandref01_one.l1 k x (acc.map fun b => (b.toNat : Int)) (i : Int)) (oneT x (Esc.unesc acc (x.data.toList.drop i)))
  | 0, i, acc, h, ha => by
    have e : x.data.toList.drop i = [] := List.drop_eq_nil_of_le (by rw [← Lib.size_eq]; omega)
    rw [e]
    exact Ev.step (fun _ => millhandref01_one.l1.eq_2 ..) (ev_neg (by omega) (Ev.now _))
  | d + 1, i, acc, h, ha => by
    have hz := Lib.size_eq x
    have hi : i < x.data.toList.length := by omega
    have hal : (acc.map fun b => (b.toNat : Int)).length = acc.length := List.length_map _
    refine Ev.step (fun _ => millhandref01_one.l1.eq_2 ..) (ev_pos (by omega) (ev_pos (by omega) ?_))
    have e1 : (i : Int) + 1 = ((i + 1 : Nat) : Int) := by omega
    have hv := (x.data.toList[i]).toNat_lt
    rw [w64 (i := (i : Int) + 1) (by omega) (by omega), bt_nat x i (by omega), List.drop_eq_getElem_cons hi, e1]
    by_cases h0 : x.data.toList[i] = 0
    · refine ev_pos (by rw [h0]; rfl) ?_
      by_cases hl : i + 1 < x.size
      · have hi2 : i + 1 < x.data.toList.length := by omega
        have hv2 := (x.data.toList[i + 1]).toNat_lt
        rw [List.drop_eq_getElem_cons hi2, Esc.unesc, if_pos h0]
        refine ev_neg (by omega) (ev_pos (by omega) (ev_pos (by omega) ?_))
        rw [bt_nat x (i + 1) (by omega)]
        by_cases h1 : x.data.toList[i + 1] = 0
        · rw [if_pos h1]
          refine ev_pos (by rw [h1]; rfl) (ev_some ?_)
          rw [w64 (by omega) (by omega), strOfNums_map]
          unfold oneT
          simp only [List.length_drop, ← hz, Prod.mk.injEq, true_and, and_true]
          omega
        · rw [if_neg h1]
          refine ev_neg (fun e => h1 (UInt8.toNat_inj.mp (by have : (0 : UInt8).toNat = 0 := rfl; omega))) ?_
          by_cases h2 : x.data.toList[i + 1] = 255
          · rw [if_pos h2]
            refine ev_pos (by rw [h2]; rfl) (ev_pos (by omega) ?_)
            rw [w64 (by omega) (by omega), show ((i + 1 : Nat) : Int) + 1 = ((i + 1 + 1 : Nat) : Int) by omega]
            match d, h with
            | 0, h => exact absurd h (by omega)
            | d + 1, h =>
              have := one_l1 x hx d (i + 1 + 1) (acc ++ [0]) (by omega) (by rw [List.length_append]; simp; omega)
              simpa using this
          · rw [if_neg h2]
            exact ev_neg (fun e => h2 (UInt8.toNat_inj.mp (by have : (255 : UInt8).toNat = 255 := rfl; omega))) (Ev.now _)
      · have e : x.data.toList.drop (i + 1) = [] := List.drop_eq_nil_of_le (by omega)
        rw [e]
        exact ev_pos (by omega) (ev_some (by simp [Esc.unesc, oneT]))
    · refine ev_neg (fun e => h0 (UInt8.toNat_inj.mp (by have : (0 : UInt8).toNat = 0 := rfl; omega))) (ev_pos (by omega) ?_)
      have := one_l1 x hx d (i + 1) (acc ++ [x.data.toList[i]]) (by omega) (by rw [List.length_append]; simp; omega)
      have eu : Esc.unesc acc (x.data.toList[i] :: x.data.toList.drop (i + 1)) = Esc.unesc (acc ++ [x.data.toList[i]]) (x.data.toList.drop (i + 1)) := by
        cases hd : x.data.toList.drop (i + 1) with
        | nil => simp [Esc.unesc]
        | cons y r => rw [Esc.unesc, if_neg h0]
      rw [eu]
      simpa using this
theorem ref_one_ev (x : ByteArray) (hx : x.size ≤ 64) (hx1 : 1 ≤ x.size) : Ev (fun k => millhandref01_one.f k x) (oneR x) := by
  have hz := Lib.size_eq x
  obtain ⟨c, q, hcq⟩ : ∃ c q, x.data.toList = c :: q := by
    cases hh : x.data.toList with
    | nil =>
      rw [hh] at hz
      have e0 : ([] : List UInt8).length = 0 := rfl
      omega
    | cons c q => exact ⟨c, q, rfl⟩
  have hql : q.length + 1 = x.size := by rw [hz, hcq]; rfl
  have hb : bt x 0 = (c.toNat : Int) := by
    have := bt_nat x 0 hx1
    rw [show ((0 : Nat) : Int) = 0 from rfl] at this
    rw [this]
    simp [hcq]
  have hcl := c.toNat_lt
  unfold millhandref01_one.f oneR
  rw [hcq, oneS_cons, hb]
  have txt : c ≠ 1 ∨ q.length < 8 → Ev (fun k => millhandref01_one.j0 k x false) (match (if c = 1 then (if 8 ≤ q.length then some ((⟨false, un8 (q.take 8) 0, ⟨#[]⟩⟩ : PartT), q.drop 8) else none) else if c = 2 then (match Esc.unesc [] q with | none => none | some (a, z) => some ((⟨true, 0, ⟨a.toArray⟩⟩ : PartT), z)) else none) with | some (p, z) => (p.f0, p.f1, p.f2, (x.size : Int) - (z.length : Int), true) | none => (false, 0, ⟨#[]⟩, 0, false)) := by
    intro hc
    refine Ev.step (fun _ => millhandref01_one.j0.eq_2 ..) (ev_neg (by decide) (ev_neg (by omega) (ev_pos (by omega) ?_)))
    rw [hb]
    by_cases h2 : c = 2
    · have h12 : ¬ c = 1 := by rw [h2]; decide
      rw [if_neg h12, if_pos h2]
      refine Ev.step (fun _ => millhandref01_one.j2.eq_2 ..) (ev_neg (by rw [h2]; decide) ?_)
      have := one_l1 x hx q.length 1 [] (by omega) (by simp)
      have hd : x.data.toList.drop 1 = q := by rw [hcq]; rfl
      rw [hd] at this
      refine ev_eq this ?_
      cases Esc.unesc [] q with
      | none => rfl
      | some az => rfl
    · have hne : ((c.toNat : Int) != 2) = true := by
        rw [bne_iff_ne]
        exact fun e => h2 (UInt8.toNat_inj.mp (by have : (2 : UInt8).toNat = 2 := rfl; omega))
      rw [hne]
      refine Ev.step (fun _ => millhandref01_one.j2.eq_2 ..) (ev_pos rfl ?_)
      by_cases h1 : c = 1
      · rw [if_pos h1, if_neg (by rcases hc with h | h; exact absurd h1 h; omega)]
        exact Ev.now _
      · rw [if_neg h1, if_neg h2]
        exact Ev.now _
  by_cases h9 : 8 ≤ q.length
  · refine ev_pos (by omega) (ev_pos (by omega) ?_)
    by_cases h1 : c = 1
    · rw [if_pos h1, if_pos h9]
      refine Ev.step (fun _ => millhandref01_one.j0.eq_2 ..) (ev_pos (by rw [h1]; rfl) ?_)
      have := one_l0 x (by omega) 8 0 0 (by omega) (by decide)
      refine ev_eq this ?_
      have hd : x.data.toList.drop (0 + 1) = q := by rw [hcq]; rfl
      rw [hd]
      simp only [List.length_drop, Prod.mk.injEq, true_and, and_true]
      refine ⟨rfl, by omega⟩
    · have hne : ((c.toNat : Int) == 1) = false := by
        rw [beq_eq_false_iff_ne]
        exact fun e => h1 (UInt8.toNat_inj.mp (by have : (1 : UInt8).toNat = 1 := rfl; omega))
      rw [hne]
      exact txt (Or.inl h1)
  · exact ev_neg (by omega) (txt (Or.inr (by omega)))
theorem oneS_len (l : List UInt8) (p : PartT) (q : List UInt8) (h : oneS l = some (p, q)) : q.length < l.length ∧ l.drop (l.length - q.length) = q := by
  obtain ⟨e, _⟩ := part_oneS l p q h
  obtain ⟨y, u, hy⟩ : ∃ y u, partU p = y :: u := by
    unfold partU
    split
    · exact ⟨_, _, rfl⟩
    · exact ⟨_, _, rfl⟩
  rw [e, hy]
  refine ⟨by simp; omega, ?_⟩
  rw [List.length_append, Nat.add_sub_cancel, List.drop_left]
theorem ref_Parts_l0 : ∀ (f : Nat) (x : ByteArray) (acc : List PartT), acc.length + f = 9 → 1 ≤ f → x.size ≤ 64 → Ev (fun k => millhandref01_Parts.l0 k x acc) (partsB f x.data.toList acc)
  | 0, _, _, _, h, _ => absurd h (by omega)
  | f + 1, x, acc, h, _, hx => by
    have hxl := Lib.size_eq x
    rw [partsB]
    by_cases h0 : x.data.toList = []
    · rw [if_pos h0]
      rw [h0] at hxl
      simp at hxl
      exact Ev.step (fun _ => millhandref01_Parts.l0.eq_2 ..) (ev_neg (by simp [hxl]) (Ev.now _))
    · rw [if_neg h0]
      have hx1 : 0 < x.size := by
        rw [hxl]
        exact List.length_pos_iff.mpr h0
      refine Ev.step (fun _ => millhandref01_Parts.l0.eq_2 ..) (ev_pos (by omega) (Ev.bind (ref_one_ev x hx hx1) ?_))
      unfold oneR
      cases ho : oneS x.data.toList with
      | none =>
        refine ev_neg (show ¬ false = true by decide) (ev_some ?_)
        by_cases h8 : acc.length = 8
        · rw [if_pos h8]
        · rw [if_neg h8]
      | some pq =>
        obtain ⟨p, q⟩ := pq
        obtain ⟨hq1, hq2⟩ := oneS_len _ p q ho
        refine ev_pos rfl ?_
        by_cases h8 : acc.length = 8
        · rw [if_pos h8]
          exact ev_pos (by omega) (Ev.now _)
        · rw [if_neg h8]
          refine ev_neg (by omega) (ev_pos (by omega) (ev_pos (show (0 : Int) ≤ (x.size : Int) - (q.length : Int) by omega) (ev_pos (show (x.size : Int) - (q.length : Int) ≤ (x.size : Int) by omega) ?_)))
          have hn : (((x.size : Int) - (q.length : Int))).toNat = x.data.toList.length - q.length := by omega
          have hd : (x.extract (x.data.toList.length - q.length) x.size).data.toList = q := by rw [Lib.extract_to_end, hq2]
          have := ref_Parts_l0 f (x.extract (x.data.toList.length - q.length) x.size) (acc ++ [p]) (by rw [List.length_append]; simp; omega) (by omega) (by rw [ByteArray.size_extract]; omega)
          rw [hd] at this
          simp only [hn]
          exact this
theorem ref_Parts_ev (s : ByteArray) : Ev (fun k => millhandref01_Parts.f k s) (partsS s) := by
  unfold millhandref01_Parts.f partsS
  by_cases h0 : s.size = 0
  · rw [if_pos (Or.inl h0)]
    exact ev_pos (by omega) (Ev.step (fun _ => millhandref01_Parts.j0.eq_2 ..) (ev_pos rfl (Ev.now _)))
  · refine ev_neg (by omega) ?_
    by_cases h6 : 64 < s.size
    · rw [if_pos (Or.inr h6)]
      exact Ev.step (fun _ => millhandref01_Parts.j0.eq_2 ..) (ev_pos (decide_eq_true (by omega)) (Ev.now _))
    · rw [if_neg (by omega)]
      refine Ev.step (fun _ => millhandref01_Parts.j0.eq_2 ..) (ev_neg (by simp; omega) ?_)
      exact ref_Parts_l0 9 s [] (by simp) (by omega) (by omega)
end Go.Proofs.YtagdmgjdhbmaiaaDoor.R

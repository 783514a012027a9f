/- Keys stand as their parts stand in order. -/
import Derived.Test.YtagdmgjdhbmaiaaDoorRKRound
namespace Go.Proofs.YtagdmgjdhbmaiaaDoor.R
open Go.RowKit Go.Proofs.YtagdmgjdhbmaiaaDoorW.PrintWords Go.Proofs.YtagdmgjdhbmaiaaDoorW.PrintLast Go.Proofs.YtagdmgjdhbmaiaaDoorW.PrintMore Go.Proofs.YtagdmgjdhbmaiaaDoor.Plain
set_option linter.unusedVariables false
set_option linter.unusedSimpArgs false

/-! ### the order of bytes -/
/-- u is below v at a byte that both have. -/
def DLt (u v : List UInt8) : Prop := ∃ c x y u' v', u = c ++ x :: u' ∧ v = c ++ y :: v' ∧ x < y
theorem DLt.cons {u v : List UInt8} (x : UInt8) (h : DLt u v) : DLt (x :: u) (x :: v) := by
  obtain ⟨c, a, b, u', v', rfl, rfl, h⟩ := h
  exact ⟨x :: c, a, b, u', v', rfl, rfl, h⟩
theorem DLt.head {x y : UInt8} (h : x < y) (u v : List UInt8) : DLt (x :: u) (y :: v) := ⟨[], x, y, u, v, rfl, rfl, h⟩
theorem DLt.app {u v : List UInt8} (h : DLt u v) (r s : List UInt8) : DLt (u ++ r) (v ++ s) := by
  obtain ⟨c, a, b, u', v', rfl, rfl, h⟩ := h
  exact ⟨c, a, b, u' ++ r, v' ++ s, by simp, by simp, h⟩
theorem DLt.pre {u v : List UInt8} (h : DLt u v) : ∀ c : List UInt8, DLt (c ++ u) (c ++ v)
  | [] => h
  | x :: c => (h.pre c).cons x
theorem u8_irr (x : UInt8) : ¬ x < x := by rw [UInt8.lt_iff_toNat_lt]; omega
theorem u8_pos {x : UInt8} (h : x ≠ 0) : (0 : UInt8) < x := by
  rw [UInt8.lt_iff_toNat_lt]
  have : x.toNat ≠ 0 := fun e => h (UInt8.toNat_inj.mp e)
  show 0 < x.toNat
  omega
theorem u8_tri (x y : UInt8) : x < y ∨ x = y ∨ y < x := by
  rw [UInt8.lt_iff_toNat_lt, UInt8.lt_iff_toNat_lt, ← UInt8.toNat_inj]
  omega
theorem u8_asym {x y : UInt8} (h : x < y) : ¬ y < x := by rw [UInt8.lt_iff_toNat_lt] at *; omega
theorem less_cons (a b : UInt8) (x y : List UInt8) : Op.bytesLess (a :: x) (b :: y) = (decide (a < b) || (a == b && Op.bytesLess x y)) := rfl
theorem less_same (c : List UInt8) (u v : List UInt8) : Op.bytesLess (c ++ u) (c ++ v) = Op.bytesLess u v := by
  induction c with
  | nil => rfl
  | cons x c ih => rw [List.cons_append, List.cons_append, less_cons, ih, decide_eq_false (u8_irr x)]; simp
theorem less_irr (u : List UInt8) : Op.bytesLess u u = false := by
  have := less_same u [] []
  rw [List.append_nil] at this
  rw [this]
  rfl
theorem less_head {x y : UInt8} (h : x < y) (u v : List UInt8) : Op.bytesLess (x :: u) (y :: v) = true := by rw [less_cons, decide_eq_true h, Bool.true_or]
theorem less_head' {x y : UInt8} (h : x < y) (u v : List UInt8) : Op.bytesLess (y :: v) (x :: u) = false := by
  rw [less_cons, decide_eq_false (u8_asym h)]
  have : (y == x) = false := by
    rw [beq_eq_false_iff_ne]
    rintro rfl
    exact u8_irr _ h
  rw [this]
  rfl
theorem DLt.less {u v : List UInt8} (h : DLt u v) : Op.bytesLess u v = true := by
  obtain ⟨c, a, b, u', v', rfl, rfl, h⟩ := h
  rw [less_same]
  exact less_head h _ _
theorem DLt.nless {u v : List UInt8} (h : DLt u v) : Op.bytesLess v u = false := by
  obtain ⟨c, a, b, u', v', rfl, rfl, h⟩ := h
  rw [less_same]
  exact less_head' h _ _
theorem DLt.ne {u v : List UInt8} (h : DLt u v) : u ≠ v := by
  rintro rfl
  have h1 := h.less
  rw [h.nless] at h1
  exact absurd h1 (by decide)
theorem DLt.take_ne {u v : List UInt8} (h : DLt u v) : (v.take u.length ≠ u) ∧ (u.take v.length ≠ v) := by
  obtain ⟨c, a, b, u', v', rfl, rfl, h⟩ := h
  have hab : a ≠ b := by rintro rfl; exact u8_irr _ h
  constructor
  · intro e
    have := congrArg (fun l => l[c.length]?) e
    simp at this
    exact hab this.symm
  · intro e
    have := congrArg (fun l => l[c.length]?) e
    simp at this
    exact hab this
theorem less_total : ∀ (s t : List UInt8), s ≠ t → Op.bytesLess s t = false → Op.bytesLess t s = true
  | [], [], h, _ => absurd rfl h
  | [], _ :: _, _, h => by simp [Op.bytesLess] at h
  | _ :: _, [], _, _ => rfl
  | x :: s, y :: t, h, hl => by
    rw [less_cons] at hl ⊢
    rcases u8_tri x y with g | rfl | g
    · rw [decide_eq_true g, Bool.true_or] at hl
      exact absurd hl (by decide)
    · have hst : s ≠ t := by rintro rfl; exact h rfl
      rw [decide_eq_false (u8_irr x)] at *
      simp only [BEq.rfl, Bool.true_and, Bool.false_or] at *
      exact less_total s t hst hl
    · rw [decide_eq_true g, Bool.true_or]
theorem less_asym : ∀ (s t : List UInt8), Op.bytesLess s t = true → Op.bytesLess t s = false
  | _, [], h => by simp [Op.bytesLess] at h
  | [], _ :: _, _ => rfl
  | x :: s, y :: t, h => by
    rw [less_cons] at h
    rcases u8_tri x y with g | rfl | g
    · exact less_head' g _ _
    · rw [decide_eq_false (u8_irr x)] at h
      simp only [BEq.rfl, Bool.true_and, Bool.false_or] at h
      have := less_asym s t h
      rw [less_cons, decide_eq_false (u8_irr x), this]
      simp
    · have := less_head' g t s
      rw [less_cons, h] at this
      exact absurd this (by decide)
theorem less_pre (u : List UInt8) (y : UInt8) (v : List UInt8) : Op.bytesLess u (u ++ y :: v) = true := by
  have := less_same u [] (y :: v)
  rw [List.append_nil] at this
  rw [this]
  rfl

/-! ### parts in order -/
theorem un8_mono : ∀ (l m : List UInt8) (a b : Int), l.length = m.length → a < b → un8 l a < un8 m b
  | [], [], a, b, _, h => h
  | [], _ :: _, _, _, h, _ => by simp at h
  | _ :: _, [], _, _, h, _ => by simp at h
  | x :: l, y :: m, a, b, h, hab => by
    have hx := x.toNat_lt
    exact un8_mono l m _ _ (by simpa using h) (by omega)
theorem un8_dlt : ∀ (l m : List UInt8) (n : Int), l.length = m.length → un8 l n < un8 m n → DLt l m
  | [], [], n, _, h => absurd h (by simp [un8])
  | [], _ :: _, _, h, _ => by simp at h
  | _ :: _, [], _, h, _ => by simp at h
  | x :: l, y :: m, n, h, hu => by
    rcases u8_tri x y with g | rfl | g
    · exact DLt.head g _ _
    · exact (un8_dlt l m _ (by simpa using h) hu).cons x
    · rw [UInt8.lt_iff_toNat_lt] at g
      have := un8_mono m l (n * 256 + (y.toNat : Int)) (n * 256 + (x.toNat : Int)) (by simpa using h.symm) (by omega)
      simp only [un8] at hu
      omega
theorem be8_dlt {n m : Int} (h0 : 0 ≤ n) (h : n < m) (h1 : m < 18446744073709551616) : DLt (be8U n) (be8U m) :=
  un8_dlt _ _ 0 rfl (by rw [un8_be8U n h0 (by omega), un8_be8U m (by omega) h1]; exact h)
theorem esc_dlt : ∀ (s t : List UInt8), Op.bytesLess s t = true → ∀ r q : List UInt8, DLt (Esc.esc s ++ 0 :: 0 :: r) (Esc.esc t ++ 0 :: 0 :: q)
  | _, [], h => by simp [Op.bytesLess] at h
  | [], y :: t, _ => by
    intro r q
    by_cases hy : y = 0
    · rw [Esc.esc, Esc.esc, if_pos hy]
      exact (DLt.head (by decide) _ _).cons 0
    · rw [Esc.esc, Esc.esc, if_neg hy]
      exact DLt.head (u8_pos hy) _ _
  | x :: s, y :: t, h => by
    intro r q
    rw [less_cons] at h
    rcases u8_tri x y with g | rfl | g
    · have hy : y ≠ 0 := by
        rintro rfl
        rw [UInt8.lt_iff_toNat_lt] at g
        exact absurd g (Nat.not_lt_zero _)
      rw [Esc.esc, Esc.esc, if_neg hy]
      by_cases hx : x = 0
      · rw [if_pos hx]
        exact DLt.head (u8_pos hy) _ _
      · rw [if_neg hx]
        exact DLt.head g _ _
    · rw [decide_eq_false (u8_irr x)] at h
      simp only [BEq.rfl, Bool.true_and, Bool.false_or] at h
      have ih := esc_dlt s t h r q
      rw [Esc.esc, Esc.esc]
      by_cases hx : x = 0
      · rw [if_pos hx, if_pos hx]
        exact (ih.cons 255).cons 0
      · rw [if_neg hx, if_neg hx]
        exact ih.cons x
    · have := less_head' g t s
      rw [less_cons, h] at this
      exact absurd this (by decide)
def partLt (p q : PartT) : Prop := if p.f0 = q.f0 then (p.f1 < q.f1 ∨ Op.bytesLess p.f2.toList q.f2.toList = true) else q.f0 = true
instance (p q : PartT) : Decidable (partLt p q) := by unfold partLt; infer_instance
theorem part_ext {p q : PartT} (h0 : p.f0 = q.f0) (h1 : p.f1 = q.f1) (h2 : p.f2 = q.f2) : p = q := by
  obtain ⟨a, b, c⟩ := p
  obtain ⟨d, e, f⟩ := q
  simp only at h0 h1 h2
  rw [h0, h1, h2]
theorem ba_ne {s t : ByteArray} (h : s ≠ t) : s.data.toList ≠ t.data.toList := by
  intro e
  apply h
  rw [← ba_eta s, ← ba_eta t, e]
theorem part_dlt (p q : PartT) (hp : okP p) (hq : okP q) (h : partLt p q) : ∀ r s : List UInt8, DLt (partU p ++ r) (partU q ++ s) := by
  intro r s
  unfold partLt at h
  unfold okP at hp hq
  unfold partU
  by_cases h0 : p.f0 = true <;> by_cases h1 : q.f0 = true
  · rw [if_pos (by rw [h0, h1])] at h
    rw [if_pos h0] at hp
    rw [if_pos h1] at hq
    rw [if_pos h0, if_pos h1]
    have hl : Op.bytesLess p.f2.toList q.f2.toList = true := by
      rcases h with h | h
      · omega
      · exact h
    rw [ByteArray.toList_eq, ByteArray.toList_eq] at hl
    have := esc_dlt _ _ hl r s
    simp only [List.cons_append, List.append_assoc, List.nil_append]
    exact this.cons 2
  · rw [if_neg (by rw [h0]; exact fun e => h1 e.symm)] at h
    exact absurd h h1
  · rw [if_neg h0, if_pos h1]
    exact DLt.head (by decide) _ _
  · have e : p.f0 = q.f0 := by
      simp only [Bool.not_eq_true] at h0 h1
      rw [h0, h1]
    rw [if_pos e] at h
    rw [if_neg h0] at hp
    rw [if_neg h1] at hq
    rw [if_neg h0, if_neg h1]
    have hn : p.f1 < q.f1 := by
      rcases h with h | h
      · exact h
      · rw [hp.1, hq.1, less_irr] at h
        exact absurd h (by decide)
    exact ((be8_dlt hp.2.1 hn hq.2.2).cons 1).app r s
theorem part_tri (p q : PartT) (hp : okP p) (hq : okP q) (hne : p ≠ q) (h : ¬ partLt p q) : partLt q p := by
  unfold partLt at *
  unfold okP at hp hq
  by_cases h0 : p.f0 = q.f0
  · rw [if_pos h0] at h
    rw [if_pos h0.symm]
    by_cases h1 : p.f0 = true
    · rw [if_pos h1] at hp
      rw [if_pos (h0 ▸ h1)] at hq
      right
      have hs : p.f2 ≠ q.f2 := fun e => hne (part_ext h0 (by omega) e)
      have := less_total p.f2.toList q.f2.toList (by rw [ByteArray.toList_eq, ByteArray.toList_eq]; exact ba_ne hs) (by
        cases hb : Op.bytesLess p.f2.toList q.f2.toList with
        | false => rfl
        | true => exact absurd (Or.inr hb) h)
      exact this
    · rw [if_neg h1] at hp
      rw [if_neg (fun e => h1 (h0.trans e))] at hq
      left
      have hn : p.f1 ≠ q.f1 := fun e => hne (part_ext h0 e (by rw [hp.1, hq.1]))
      have : ¬ p.f1 < q.f1 := fun e => h (Or.inl e)
      omega
  · rw [if_neg h0] at h
    rw [if_neg (fun e => h0 e.symm)]
    cases h1 : p.f0 with
    | true => rfl
    | false =>
      cases h2 : q.f0 with
      | true => exact absurd h2 h
      | false => exact absurd (h1.trans h2.symm) h0
/-- How two lists of parts stand in order. -/
def orderS : List PartT → List PartT → Int
  | [], [] => 0
  | [], _ :: _ => -1
  | _ :: _, [] => 1
  | p :: l, q :: m => if p.f0 = q.f0 ∧ p.f1 = q.f1 ∧ p.f2 = q.f2 then orderS l m else if partLt p q then -1 else 1
theorem keyU_cons (p : PartT) (l : List PartT) : keyU (p :: l) = partU p ++ keyU l := by simp only [keyU, List.flatMap_cons]
theorem partU_cons (p : PartT) : ∃ x u, partU p = x :: u := by
  unfold partU
  split
  · exact ⟨_, _, rfl⟩
  · exact ⟨_, _, rfl⟩
theorem order_cmp : ∀ (l m : List PartT), (∀ p ∈ l, okP p) → (∀ p ∈ m, okP p) →
    (orderS l m = -1 → Op.bytesLess (keyU l) (keyU m) = true) ∧ (orderS l m = 0 → l = m) ∧ (orderS l m = 1 → Op.bytesLess (keyU m) (keyU l) = true) ∧ (orderS l m = -1 ∨ orderS l m = 0 ∨ orderS l m = 1)
  | [], [], _, _ => by simp [orderS]
  | [], q :: m, _, _ => by
    obtain ⟨x, u, e⟩ := partU_cons q
    rw [keyU_cons, e]
    simp [orderS, keyU, Op.bytesLess]
  | p :: l, [], _, _ => by
    obtain ⟨x, u, e⟩ := partU_cons p
    rw [keyU_cons, e]
    simp [orderS, keyU, Op.bytesLess]
  | p :: l, q :: m, hp, hq => by
    have p0 := hp p (List.mem_cons_self ..)
    have q0 := hq q (List.mem_cons_self ..)
    rw [orderS, keyU_cons, keyU_cons]
    by_cases h : p.f0 = q.f0 ∧ p.f1 = q.f1 ∧ p.f2 = q.f2
    · rw [if_pos h]
      have e : p = q := part_ext h.1 h.2.1 h.2.2
      subst e
      have ih := order_cmp l m (fun z hz => hp z (List.mem_cons_of_mem _ hz)) (fun z hz => hq z (List.mem_cons_of_mem _ hz))
      rw [less_same, less_same]
      refine ⟨ih.1, fun h0 => by rw [ih.2.1 h0], ih.2.2.1, ih.2.2.2⟩
    · rw [if_neg h]
      have hne : p ≠ q := by rintro rfl; exact h ⟨rfl, rfl, rfl⟩
      by_cases hl : partLt p q
      · rw [if_pos hl]
        have := (part_dlt p q p0 q0 hl (keyU l) (keyU m)).less
        simp [this]
      · rw [if_neg hl]
        have := (part_dlt q p q0 p0 (part_tri p q p0 q0 hne hl) (keyU m) (keyU l)).less
        simp [this]
end Go.Proofs.YtagdmgjdhbmaiaaDoor.R

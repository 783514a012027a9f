/- What stands under a key, in plain words. -/
import Derived.Test.YtpalnbdcemmlnaaRx11
import Derived.Test.YtpalnbdcemmlnaaRLawA
namespace Go.Proofs.Ytpalnbdcemmlnaa.R
open Go.RowKit Go.Proofs.YtpalnbdcemmlnaaW.PrintWords Go.Proofs.YtpalnbdcemmlnaaW.PrintLast Go.Proofs.YtpalnbdcemmlnaaW.PrintMore Go.Proofs.Ytpalnbdcemmlnaa.Plain
set_option linter.unusedVariables false

/-! ### what stands under a key -/
theorem less_trans : ∀ a b c : List UInt8, Op.bytesLess a b = true → Op.bytesLess b c = true → Op.bytesLess a c = true
  | [], [], _, h, _ => by cases h
  | [], y :: b, [], _, h => by cases h
  | [], y :: b, z :: c, _, _ => rfl
  | x :: a, [], _, h, _ => by cases h
  | x :: a, y :: b, [], _, h => by cases h
  | x :: a, y :: b, z :: c, h1, h2 => by
    refine less_iff.mpr ?_
    rcases less_iff.mp h1 with g1 | ⟨e1, g1⟩ <;> rcases less_iff.mp h2 with g2 | ⟨e2, g2⟩
    · exact Or.inl (by omega)
    · subst e2; exact Or.inl g1
    · subst e1; exact Or.inl g2
    · subst e1 e2; exact Or.inr ⟨rfl, less_trans a b c g1 g2⟩
theorem okS_iff (p x : EnT) : okS p x = true ↔ Op.bytesLess p.f0.toList x.f0.toList = true ∨ (p.f0.toList = x.f0.toList ∧ x.f1 < p.f1) := by
  unfold okS
  by_cases h1 : Op.bytesLess x.f0.toList p.f0.toList = true
  · rw [if_pos h1]
    constructor
    · intro h; cases h
    · rintro (h | ⟨h, _⟩)
      · rw [less_asym _ _ h] at h1; cases h1
      · rw [h, less_irr] at h1; cases h1
  · rw [if_neg h1]
    by_cases h2 : x.f0.toList = p.f0.toList
    · rw [if_pos h2]
      by_cases h3 : p.f1 ≤ x.f1
      · rw [decide_eq_true h3]
        constructor
        · intro h; cases h
        · rintro (h | ⟨_, h⟩)
          · rw [h2, less_irr] at h; cases h
          · omega
      · rw [decide_eq_false h3]
        exact ⟨fun _ => Or.inr ⟨h2.symm, by omega⟩, fun _ => rfl⟩
    · rw [if_neg h2]
      refine ⟨fun _ => Or.inl ?_, fun _ => rfl⟩
      by_cases h3 : Op.bytesLess p.f0.toList x.f0.toList = true
      · exact h3
      · exact absurd (less_tot _ _ (Bool.eq_false_iff.mpr h1) (Bool.eq_false_iff.mpr h3)) h2
theorem okS_trans {a b c : EnT} (h1 : okS a b = true) (h2 : okS b c = true) : okS a c = true := by
  rw [okS_iff] at *
  rcases h1 with h1 | ⟨e1, h1⟩ <;> rcases h2 with h2 | ⟨e2, h2⟩
  · exact Or.inl (less_trans _ _ _ h1 h2)
  · exact Or.inl (e2 ▸ h1)
  · exact Or.inl (e1 ▸ h2)
  · exact Or.inr ⟨e1.trans e2, by omega⟩
theorem ord_all : ∀ {l : List EnT} {p : EnT}, ordF (some p) l = true → ∀ x ∈ l, okS p x = true
  | [], _, _, x, hx => by cases hx
  | y :: t, p, h, x, hx => by
    rw [ordF_cons, Bool.and_eq_true, Bool.and_eq_true] at h
    have h1 : okS p y = true := h.1.2
    rcases List.mem_cons.mp hx with rfl | hx
    · exact h1
    · exact okS_trans h1 (ord_all h.2 x hx)
theorem ord_pair : ∀ {l : List EnT} {p : Option EnT}, ordF p l = true → l.Pairwise (fun a b => okS a b = true)
  | [], _, _ => List.Pairwise.nil
  | y :: t, p, h => by
    rw [ordF_cons, Bool.and_eq_true] at h
    exact List.Pairwise.cons (ord_all h.2) (ord_pair h.2)
def hitS (key : ByteArray) (seq : Int) (x : EnT) : Bool := decide (x.f0.toList = key.toList) && decide (x.f1 ≤ seq)
def findS (l : List EnT) (key : ByteArray) (seq : Int) : Option EnT := l.find? (hitS key seq)
def askS (key : ByteArray) (seq : Int) : Int := if keyedS key then (if seq < 0 then 2 else if seq > 1099511627776 then 2 else 0) else 3
def outS : Option EnT → ByteArray × Int × Bool × ByteArray × Bool × Int
  | some x => (x.f0, x.f1, x.f2, x.f3, true, 0)
  | none => (⟨#[]⟩, 0, false, ⟨#[]⟩, false, 0)
def findB (b : List Int) (key : ByteArray) (seq : Int) : ByteArray × Int × Bool × ByteArray × Bool × Int :=
  if (readB b).2 = 0 then (if askS key seq = 0 then outS (findS (readB b).1 key seq) else (⟨#[]⟩, 0, false, ⟨#[]⟩, false, askS key seq)) else (⟨#[]⟩, 0, false, ⟨#[]⟩, false, (readB b).2)
theorem block_Find_l0 (l : List EnT) (key : ByteArray) (seq : Int) (hl : l.length < 9223372036854775807) : ∀ (d i : Nat), i + d = l.length → Ev (fun k => block_Find.l0 k key seq l (l.length : Int) (i : Int)) (outS (findS (l.drop i) key seq))
  | 0, i, h => by
    rw [List.drop_of_length_le (by omega)]
    exact Ev.step (fun _ => block_Find.l0.eq_2 ..) (ev_neg (by omega) (ev_some rfl))
  | d + 1, i, h => by
    have hi : i < l.length := by omega
    have ih := block_Find_l0 l key seq hl d (i + 1) (by omega)
    rw [List.drop_eq_getElem_cons hi]
    unfold findS at ih ⊢
    rw [List.find?_cons]
    refine Ev.step (fun _ => block_Find.l0.eq_2 ..) (ev_pos (by omega) (ev_pos (by omega) (ev_pos (by omega) ?_)))
    rw [rd_en l i hi, w64 (by omega) (by omega)]
    unfold hitS at ih ⊢
    by_cases h1 : l[i].f0.toList = key.toList
    · refine ev_pos h1 ?_
      by_cases h2 : l[i].f1 ≤ seq
      · refine ev_pos h2 (ev_some ?_)
        simp only [h1, h2, decide_true, Bool.and_self]
        rfl
      · refine ev_neg h2 ?_
        simp only [h1, h2, decide_true, decide_false, Bool.and_false]
        exact ih
    · refine ev_neg h1 ?_
      simp only [h1, decide_false, Bool.false_and]
      exact ih
theorem block_Find_ev (b : List Int) (key : ByteArray) (seq : Int) (h : ∀ x ∈ b, 0 ≤ x ∧ x ≤ 255) (hb : b.length ≤ 140737488351232) : Ev (fun k => block_Find.f k b key seq) (findB b key seq) := by
  unfold block_Find.f findB askS
  simp only [block_Read_eq h hb, block_keyed_eq, Option.bind_some]
  by_cases h1 : (readB b).2 = 0
  · rw [if_pos h1]
    refine ev_pos h1 ?_
    by_cases h2 : keyedS key = true
    · rw [if_pos h2]
      refine ev_pos h2 ?_
      by_cases h3 : seq < 0
      · rw [if_pos h3, if_neg (by decide)]
        exact ev_pos h3 (Ev.now _)
      · rw [if_neg h3]
        refine ev_neg h3 ?_
        by_cases h4 : seq > 1099511627776
        · rw [if_pos h4, if_neg (by decide)]
          exact ev_pos h4 (Ev.now _)
        · rw [if_neg h4, if_pos rfl]
          refine ev_neg h4 ?_
          have := block_Find_l0 (readB b).1 key seq (by have := readB_len b; omega) (readB b).1.length 0 (by omega)
          rw [List.drop_zero] at this
          exact this
    · rw [if_neg h2, if_neg (by decide)]
      exact ev_neg h2 (Ev.now _)
  · rw [if_neg h1]
    exact ev_neg h1 (Ev.now _)
end Go.Proofs.Ytpalnbdcemmlnaa.R

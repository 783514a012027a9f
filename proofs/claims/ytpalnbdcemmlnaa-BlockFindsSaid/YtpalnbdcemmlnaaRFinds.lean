/- The law BlockFinds in plain words. -/
import Derived.Test.YtpalnbdcemmlnaaRx13
import Derived.Test.YtpalnbdcemmlnaaRx14
import Derived.Test.YtpalnbdcemmlnaaRFind
import Derived.Test.YtpalnbdcemmlnaaRBack2
namespace Go.Proofs.Ytpalnbdcemmlnaa.R
open Go.RowKit Go.Proofs.YtpalnbdcemmlnaaW.PrintWords Go.Proofs.YtpalnbdcemmlnaaW.PrintLast Go.Proofs.YtpalnbdcemmlnaaW.PrintMore Go.Proofs.Ytpalnbdcemmlnaa.Plain
set_option linter.unusedVariables false

theorem ref12_Asked_eq (key : ByteArray) (seq : Int) : millhandref12_Asked.f key seq = some (askS key seq) := by
  unfold millhandref12_Asked.f askS
  rw [ref12_Key_eq]
  simp only [Option.bind_some]
  repeat' split
  all_goals simp_all
  all_goals omega
def seenO : EnT × Bool → ByteArray × Int × Bool × ByteArray × Bool := fun r => (r.1.f0, r.1.f1, r.1.f2, r.1.f3, r.2)
theorem ref12_Seen_l0 (l : List EnT) (key : ByteArray) (seq : Int) (hl : l.length < 9223372036854775807) (hp : l.Pairwise (fun a b => okS a b = true)) : ∀ (d i : Nat) (o : EnT) (is : Bool), i + d = l.length →
    (is = true → o.f0.toList = key.toList ∧ ∀ x ∈ l.drop i, okS o x = true) →
    Ev (fun k => millhandref12_Seen.l0 k l key seq is (i : Int) o.f0 o.f1 o.f2 o.f3) (seenO (if is = true then (o, true) else match findS (l.drop i) key seq with | some x => (x, true) | none => (o, false)))
  | 0, i, o, is, h, ho => by
    rw [List.drop_of_length_le (by omega)]
    refine Ev.step (fun _ => millhandref12_Seen.l0.eq_2 ..) (ev_neg (by omega) (ev_some ?_))
    cases is <;> rfl
  | d + 1, i, o, is, h, ho => by
    have hi : i < l.length := by omega
    rw [List.drop_eq_getElem_cons hi] at ho ⊢
    have hpi : ∀ x ∈ l.drop (i + 1), okS l[i] x = true := by
      have h1 := List.Pairwise.sublist (List.drop_sublist i l) hp
      rw [List.drop_eq_getElem_cons hi] at h1
      exact (List.pairwise_cons.mp h1).1
    refine Ev.step (fun _ => millhandref12_Seen.l0.eq_2 ..) (ev_pos (by omega) (ev_pos (by omega) ?_))
    rw [rd_en l i hi, w64 (by omega) (by omega)]
    have ih1 : ∀ o is, (is = true → o.f0.toList = key.toList ∧ ∀ x ∈ l.drop (i + 1), okS o x = true) → _ := fun o is => ref12_Seen_l0 l key seq hl hp d (i + 1) o is (by omega)
    cases is with
    | true =>
      obtain ⟨hk, hlt⟩ := ho rfl
      have hlt1 := hlt l[i] List.mem_cons_self
      have ih := ih1 o true (fun _ => ⟨hk, fun x hx => hlt x (List.mem_cons_of_mem _ hx)⟩)
      by_cases h1 : l[i].f0.toList = key.toList
      · refine ev_pos h1 ?_
        by_cases h2 : l[i].f1 ≤ seq
        · refine ev_pos h2 (ev_pos rfl (ev_neg ?_ ih))
          rcases (okS_iff _ _).mp hlt1 with h3 | ⟨_, h3⟩
          · rw [hk, ← h1, less_irr] at h3; cases h3
          · omega
        · exact ev_neg h2 ih
      · exact ev_neg h1 ih
    | false =>
      have ih := ih1 o false (fun hh => by cases hh)
      simp only [Bool.false_eq_true, if_false] at ih ⊢
      unfold findS at ih ⊢
      rw [List.find?_cons]
      by_cases h1 : l[i].f0.toList = key.toList
      · refine ev_pos h1 ?_
        by_cases h2 : l[i].f1 ≤ seq
        · have e : hitS key seq l[i] = true := by unfold hitS; simp only [h1, h2, decide_true, Bool.and_self]
          rw [e]
          refine ev_pos h2 ?_
          have := ih1 l[i] true (fun _ => ⟨h1, hpi⟩)
          rw [if_pos rfl] at this
          exact this
        · have e : hitS key seq l[i] = false := by unfold hitS; simp only [h2, decide_false, Bool.and_false]
          rw [e]
          exact ev_neg h2 ih
      · have e : hitS key seq l[i] = false := by unfold hitS; simp only [h1, decide_false, Bool.false_and]
        rw [e]
        exact ev_neg h1 ih
theorem ref12_Find_ev (b : List Int) (key : ByteArray) (seq : Int) (h : ∀ x ∈ b, 0 ≤ x ∧ x ≤ 255) (hb : b.length ≤ 140737488351232) : Ev (fun k => millhandref12_Find.f k b key seq) (findB b key seq) := by
  have hr2 : millhandref12_Read.f b = some (readB b) := by
    unfold millhandref12_Read.f
    rw [if_pos ⟨h, hb⟩, read_same]
  unfold millhandref12_Find.f findB
  simp only [hr2, ref12_Asked_eq, Option.bind_some]
  by_cases h1 : (readB b).2 = 0
  · rw [if_pos h1]
    refine ev_pos h1 ?_
    by_cases h2 : askS key seq = 0
    · rw [if_pos h2]
      refine ev_pos h2 ?_
      have hs := ref12_Seen_l0 (readB b).1 key seq (by have := readB_len b; omega) (ord_pair (writeS_ok (readB_ok h1).1).2.1) (readB b).1.length 0 ⟨⟨#[]⟩, 0, false, ⟨#[]⟩⟩ false (by omega) (fun hh => by cases hh)
      rw [List.drop_zero] at hs
      have hs2 : Ev (fun k => millhandref12_Seen.f k (readB b).1 key seq) _ := hs
      refine Ev.bind hs2 (ev_some ?_)
      cases findS (readB b).1 key seq <;> rfl
    · rw [if_neg h2]
      exact ev_neg h2 (Ev.now _)
  · rw [if_neg h1]
    exact ev_neg h1 (Ev.now _)
theorem BlockFinds_ev (b : List Int) (key : ByteArray) (seq : Int) (h : ∀ x ∈ b, 0 ≤ x ∧ x ≤ 255) (hb : b.length ≤ 140737488351232) (hk : key.size ≤ 140737488351232) : Ev (fun k => millhandlaw12_BlockFinds.f k b key seq) true := by
  unfold millhandlaw12_BlockFinds.f
  have hT : Ev (fun k => millhandlaw12_BlockFinds.j0 k b key seq true) true := Ev.step (fun _ => millhandlaw12_BlockFinds.j0.eq_2 ..) (ev_pos rfl (Ev.now _))
  by_cases h1 : (b.length : Int) > 10000
  · exact ev_pos h1 hT
  · refine ev_neg h1 ?_
    by_cases h2 : (key.size : Int) > 10000
    · rw [decide_eq_true h2]; exact hT
    · rw [decide_eq_false h2]
      refine Ev.step (fun _ => millhandlaw12_BlockFinds.j0.eq_2 ..) (ev_neg (by simp) ?_)
      simp only [List.nil_append, Option.bind_some]
      have hsz : (strOfNums b).size = b.length := strOfNums_size b
      refine ev_pos (by simp; omega) (Ev.bind (block_Find_ev b key seq h hb) (Ev.bind (ref12_Find_ev b key seq h hb) ?_))
      refine ev_pos (by simp) (ev_pos (by simp) (ev_pos rfl (Ev.bind (block_Common_ev key (strOfNums b) (by omega) (by omega)) (Ev.bind (ref12_Common_ev key (strOfNums b) (by omega) (by omega)) (ev_pos rfl (ev_some (by simp)))))))
theorem BlockFinds_walk (w : World) (A0 : Option Addr) (c0 : Nat) (l0 : List Int) (r0 : Kd.C (Kd.int .u8) w A0 l0.length l0) (q0 : l0.length ≤ c0) (g0_ : (l0.length * 1 ≤ 140737488351232 ∧ l0.length ≤ 9223372036854775807 ∧ ∀ y0 ∈ l0, (Lit.int .u8 y0).wf = true)) (a1 : ByteArray) (g1_ : a1.size ≤ 140737488351232) (a2 : Int) (g2_ : (Lit.int .i64 a2).wf = true) :
    Calls Try.prog 6 #[.slice A0 l0.length c0, .string a1, .int .i64 a2] w fun e w' => e = .returned (.bool true) ∧ Below w.heap.size w w' := by
  obtain ⟨k, h⟩ := (BlockFinds_ev l0 a1 a2 (fun x hx => wfu8.mp (g0_.2.2 x hx)) (by omega) g1_).rounds
  exact millhandlaw12_BlockFinds.calls k A0 c0 l0 a1 a2 true w r0 q0 h
end Go.Proofs.Ytpalnbdcemmlnaa.R

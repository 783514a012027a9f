/- The law BlockSeen in plain words. -/
import Derived.Test.YtpalnbdcemmlnaaRx15
import Derived.Test.YtpalnbdcemmlnaaRFind
namespace Go.Proofs.Ytpalnbdcemmlnaa.R
open Go.RowKit Go.Proofs.YtpalnbdcemmlnaaW.PrintWords Go.Proofs.YtpalnbdcemmlnaaW.PrintLast Go.Proofs.YtpalnbdcemmlnaaW.PrintMore Go.Proofs.Ytpalnbdcemmlnaa.Plain
set_option linter.unusedVariables false

def eqE (a b : EnT) : Bool := (a.f0.toList == b.f0.toList && (a.f1 == b.f1 && (a.f2 == b.f2 && (a.f3.toList == b.f3.toList))))
theorem eqE_refl (a : EnT) : eqE a a = true := by unfold eqE; simp
theorem BlockSeen_none (l : List EnT) (key : ByteArray) (seq : Int) (hl : l.length < 9223372036854775807) (o : EnT) (hn : findS l key seq = none) : ∀ (d i : Nat), i + d = l.length →
    Ev (fun k => millhandlaw12_BlockSeen.l0 k l key seq true false true (i : Int) o.f0 o.f1 o.f2 o.f3) true
  | 0, i, h => Ev.step (fun _ => millhandlaw12_BlockSeen.l0.eq_2 ..) (ev_neg (by omega) (ev_pos rfl (ev_pos rfl (ev_neg (by simp) (Ev.now _)))))
  | d + 1, i, h => by
    have hi : i < l.length := by omega
    have hn1 := List.find?_eq_none.mp hn l[i] (List.getElem_mem hi)
    refine Ev.step (fun _ => millhandlaw12_BlockSeen.l0.eq_2 ..) (ev_pos (by omega) (ev_pos (by omega) ?_))
    rw [rd_en l i hi, w64 (by omega) (by omega)]
    have ih := BlockSeen_none l key seq hl o hn d (i + 1) (by omega)
    by_cases h1 : l[i].f0.toList = key.toList
    · refine ev_pos h1 (ev_neg (fun h2 => hn1 ?_) (ev_pos rfl ih))
      unfold hitS
      simp only [h1, h2, decide_true, Bool.and_self]
    · exact ev_neg h1 (ev_pos rfl ih)
theorem BlockSeen_some (l : List EnT) (key : ByteArray) (seq : Int) (hl : l.length < 9223372036854775807) (o : EnT) (hk : o.f0.toList = key.toList) (hs : o.f1 ≤ seq) (hm : o ∈ l) (hle : ∀ x ∈ l, x.f0.toList = key.toList → x.f1 ≤ seq → x.f1 ≤ o.f1) : ∀ (d i : Nat), i + d = l.length →
    Ev (fun k => millhandlaw12_BlockSeen.l0 k l key seq true true ((l.take i).any (fun x => eqE x o)) (i : Int) o.f0 o.f1 o.f2 o.f3) true
  | 0, i, h => by
    have e : (l.take i).any (fun x => eqE x o) = true := by
      rw [List.take_of_length_le (by omega), List.any_eq_true]
      exact ⟨o, hm, eqE_refl o⟩
    rw [e]
    exact Ev.step (fun _ => millhandlaw12_BlockSeen.l0.eq_2 ..) (ev_neg (by omega) (ev_pos rfl (ev_pos rfl (ev_pos rfl (ev_pos hk (ev_some (decide_eq_true hs)))))))
  | d + 1, i, h => by
    have hi : i < l.length := by omega
    have ih := BlockSeen_some l key seq hl o hk hs hm hle d (i + 1) (by omega)
    rw [List.take_succ_eq_append_getElem hi, List.any_append] at ih
    refine Ev.step (fun _ => millhandlaw12_BlockSeen.l0.eq_2 ..) (ev_pos (by omega) (ev_pos (by omega) ?_))
    rw [rd_en l i hi, w64 (by omega) (by omega)]
    have both : ∀ b, b = (l.take i).any (fun x => eqE x o) → Ev (fun k => if b = true then millhandlaw12_BlockSeen.l0 k l key seq true true true ((i : Int) + 1) o.f0 o.f1 o.f2 o.f3 else millhandlaw12_BlockSeen.l0 k l key seq true true (l[i].f0.toList == o.f0.toList && (l[i].f1 == o.f1 && (l[i].f2 == o.f2 && l[i].f3.toList == o.f3.toList))) ((i : Int) + 1) o.f0 o.f1 o.f2 o.f3) true := by
      intro b hb
      rw [← hb] at ih
      cases b with
      | true =>
        rw [Bool.true_or] at ih
        exact ev_pos rfl ih
      | false =>
        simp only [List.any_cons, List.any_nil, Bool.or_false, Bool.false_or] at ih
        exact ev_neg (by simp) ih
    by_cases h1 : l[i].f0.toList = key.toList
    · refine ev_pos h1 ?_
      by_cases h2 : l[i].f1 ≤ seq
      · refine ev_pos h2 (ev_pos rfl (ev_neg ?_ (both _ rfl)))
        have := hle l[i] (List.getElem_mem hi) h1 h2
        omega
      · exact ev_neg h2 (both _ rfl)
    · exact ev_neg h1 (both _ rfl)
theorem find_first {l : List EnT} {key : ByteArray} {seq : Int} {o : EnT} (hp : l.Pairwise (fun a b => okS a b = true)) (h : findS l key seq = some o) : o.f0.toList = key.toList ∧ o.f1 ≤ seq ∧ o ∈ l ∧ ∀ x ∈ l, x.f0.toList = key.toList → x.f1 ≤ seq → x.f1 ≤ o.f1 := by
  induction l with
  | nil => cases h
  | cons y t ih =>
    unfold findS at h ih
    rw [List.find?_cons] at h
    obtain ⟨hy, hp2⟩ := List.pairwise_cons.mp hp
    cases e : hitS key seq y with
    | true =>
      rw [e] at h
      obtain rfl := Option.some.inj h
      unfold hitS at e
      rw [Bool.and_eq_true, decide_eq_true_eq, decide_eq_true_eq] at e
      refine ⟨e.1, e.2, by simp, fun x hx h1 h2 => ?_⟩
      rcases List.mem_cons.mp hx with rfl | hx
      · exact Int.le_refl _
      · rcases (okS_iff _ _).mp (hy x hx) with h3 | ⟨_, h3⟩
        · rw [e.1, h1, less_irr] at h3; cases h3
        · omega
    | false =>
      rw [e] at h
      obtain ⟨h1, h2, h3, h4⟩ := ih hp2 h
      refine ⟨h1, h2, List.mem_cons_of_mem _ h3, fun x hx g1 g2 => ?_⟩
      rcases List.mem_cons.mp hx with rfl | hx
      · unfold hitS at e
        simp only [g1, g2, decide_true, Bool.and_self] at e
        cases e
      · exact h4 x hx g1 g2
theorem BlockSeen_ev (l : List EnT) (key : ByteArray) (seq : Int) (hl : l.length * 48 ≤ 140737488351232) : Ev (fun k => millhandlaw12_BlockSeen.f k l key seq) true := by
  unfold millhandlaw12_BlockSeen.f
  have hT : Ev (fun k => millhandlaw12_BlockSeen.j0 k l key seq true true) true := Ev.step (fun _ => millhandlaw12_BlockSeen.j0.eq_2 ..) (ev_pos rfl (Ev.now _))
  refine Ev.bind alive_ev (ev_pos (by first | rfl | trivial) ?_)
  obtain ⟨g, hg⟩ := ref12_Heavy_ev l (by omega)
  refine Ev.bind hg ?_
  cases g with
  | true => exact ev_pos rfl hT
  | false =>
    refine ev_neg (by simp) ?_
    by_cases h1 : (key.size : Int) > 1000
    · rw [decide_eq_true h1]; exact hT
    · rw [decide_eq_false h1]
      refine Ev.step (fun _ => millhandlaw12_BlockSeen.j0.eq_2 ..) (ev_neg (by simp) (Ev.bind (block_Write_ev l (by omega)) ?_))
      by_cases h2 : (writeS l).2 = 0
      · obtain ⟨h3, h4, h5, h6⟩ := writeS_ok h2
        have hr := readB_write h2
        refine ev_pos h2 (Ev.bind (block_Find_ev (writeS l).1 key seq (writeS_range l) (by rw [h6]; omega)) ?_)
        unfold findB
        rw [hr, if_pos rfl]
        by_cases ha : askS key seq = 0
        · rw [if_pos ha]
          cases hf : findS l key seq with
          | none =>
            refine ev_pos rfl ?_
            exact BlockSeen_none l key seq (by omega) ⟨⟨#[]⟩, 0, false, ⟨#[]⟩⟩ hf l.length 0 (by omega)
          | some o =>
            refine ev_pos rfl ?_
            obtain ⟨g1, g2, g3, g4⟩ := find_first (ord_pair h4) hf
            exact BlockSeen_some l key seq (by omega) o g1 g2 g3 g4 l.length 0 (by omega)
        · rw [if_neg ha]
          refine ev_neg ha (ev_pos rfl (ev_neg (by simp) ?_))
          by_cases k1 : (key.size : Int) < 1
          · exact ev_pos k1 (Ev.now _)
          · refine ev_neg k1 ?_
            by_cases k2 : (key.size : Int) > 64
            · exact ev_pos k2 (Ev.now _)
            · refine ev_neg k2 ?_
              by_cases k3 : seq < 0
              · exact ev_pos k3 (Ev.now _)
              · refine ev_neg k3 (ev_some (decide_eq_true ?_))
                unfold askS keyedS at ha
                rw [decide_eq_true (show 1 ≤ key.size by omega), decide_eq_true (show key.size ≤ 64 by omega)] at ha
                simp only [Bool.and_self, if_true] at ha
                rw [if_neg k3] at ha
                split at ha
                · assumption
                · exact absurd rfl ha
      · exact ev_neg h2 (Ev.now _)
theorem BlockSeen_walk (w : World) (A0 : Option Addr) (c0 : Nat) (l0 : List EnT) (r0 : Kd.C k39 w A0 l0.length l0) (q0 : l0.length ≤ c0) (g0_ : (l0.length * 48 ≤ 140737488351232 ∧ l0.length ≤ 9223372036854775807 ∧ ∀ y0 ∈ l0, g39 y0)) (a1 : ByteArray) (g1_ : a1.size ≤ 140737488351232) (a2 : Int) (g2_ : (Lit.int .i64 a2).wf = true) :
    Calls Try.prog 7 #[.slice A0 l0.length c0, .string a1, .int .i64 a2] w fun e w' => e = .returned (.bool true) ∧ Below w.heap.size w w' := by
  obtain ⟨k, h⟩ := (BlockSeen_ev l0 a1 a2 g0_.1).rounds
  exact millhandlaw12_BlockSeen.calls k A0 c0 l0 a1 a2 true w r0 q0 h
end Go.Proofs.Ytpalnbdcemmlnaa.R

/- The law BlockBytes in plain words. -/
import Derived.Test.YtpalnbdcemmlnaaRx10
import Derived.Test.YtpalnbdcemmlnaaRLawA
import Derived.Test.YtpalnbdcemmlnaaRBack2
namespace Go.Proofs.Ytpalnbdcemmlnaa.R
open Go.RowKit Go.Proofs.YtpalnbdcemmlnaaW.PrintWords Go.Proofs.YtpalnbdcemmlnaaW.PrintLast Go.Proofs.YtpalnbdcemmlnaaW.PrintMore Go.Proofs.Ytpalnbdcemmlnaa.Plain
set_option linter.unusedVariables false

theorem BlockBytes_ev (l : List EnT) (b : List Int) (hl : l.length * 48 ≤ 140737488351232) (h : ∀ x ∈ b, 0 ≤ x ∧ x ≤ 255) (hb : b.length ≤ 140737488351232) : Ev (fun k => millhandlaw12_BlockBytes.f k l b) true := by
  unfold millhandlaw12_BlockBytes.f
  have hT : Ev (fun k => millhandlaw12_BlockBytes.j0 k l b true) true := Ev.step (fun _ => millhandlaw12_BlockBytes.j0.eq_2 ..) (ev_pos rfl (Ev.now _))
  obtain ⟨g, hg⟩ := ref12_Heavy_ev l (by omega)
  refine Ev.bind hg ?_
  cases g with
  | true => exact ev_pos rfl hT
  | false =>
    refine ev_neg (by simp) ?_
    by_cases h1 : (b.length : Int) > 10000
    · rw [decide_eq_true h1]; exact hT
    · rw [decide_eq_false h1]
      have hr2 : millhandref12_Read.f b = some (readB b) := by
        unfold millhandref12_Read.f
        rw [if_pos ⟨h, hb⟩, read_same]
      refine Ev.step (fun _ => millhandlaw12_BlockBytes.j0.eq_2 ..) (ev_neg (by simp) ?_)
      simp only [List.nil_append, Option.bind_some, block_Read_eq h hb, hr2]
      refine ev_pos (by simp; omega) (ev_pos (by simp; omega) (Ev.bind (block_Write_ev l (by omega)) (Ev.bind (ref12_Write_ev l (by omega)) ?_)))
      refine ev_pos rfl (ev_pos rfl (Ev.bind (ref12_Same_ev _ (by have := readB_len b; omega)) (ev_pos rfl (ev_pos trivial (Ev.bind (ref12_Same_ev l (by omega)) (ev_pos rfl (ev_some (by simp))))))))
theorem BlockBytes_walk (w : World) (A0 : Option Addr) (c0 : Nat) (l0 : List EnT) (r0 : Kd.C k39 w A0 l0.length l0) (q0 : l0.length ≤ c0) (g0_ : (l0.length * 48 ≤ 140737488351232 ∧ l0.length ≤ 9223372036854775807 ∧ ∀ y0 ∈ l0, g39 y0)) (A1 : Option Addr) (c1 : Nat) (l1 : List Int) (r1 : Kd.C (Kd.int .u8) w A1 l1.length l1) (q1 : l1.length ≤ c1) (g1_ : (l1.length * 1 ≤ 140737488351232 ∧ l1.length ≤ 9223372036854775807 ∧ ∀ y0 ∈ l1, (Lit.int .u8 y0).wf = true)) :
    Calls Try.prog 3 #[.slice A0 l0.length c0, .slice A1 l1.length c1] w fun e w' => e = .returned (.bool true) ∧ Below w.heap.size w w' := by
  obtain ⟨k, h⟩ := (BlockBytes_ev l0 l1 g0_.1 (fun x hx => wfu8.mp (g1_.2.2 x hx)) (by omega)).rounds
  exact millhandlaw12_BlockBytes.calls k A0 c0 l0 A1 c1 l1 true w r0 q0 r1 q1 h
end Go.Proofs.Ytpalnbdcemmlnaa.R

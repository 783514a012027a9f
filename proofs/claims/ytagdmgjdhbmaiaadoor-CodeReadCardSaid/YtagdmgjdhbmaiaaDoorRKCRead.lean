/- A key's parts are read back, and nothing else is read as one. -/
import Derived.Test.YtagdmgjdhbmaiaaDoorRx6
import Derived.Test.YtagdmgjdhbmaiaaDoorRKCm
import Derived.Test.YtagdmgjdhbmaiaaDoorROp
namespace Go.Proofs.YtagdmgjdhbmaiaaDoor.R
open Go.RowKit Go.Proofs.YtagdmgjdhbmaiaaDoorW.PrintWords Go.Proofs.YtagdmgjdhbmaiaaDoorW.PrintLast Go.Proofs.YtagdmgjdhbmaiaaDoorW.PrintMore Go.Proofs.YtagdmgjdhbmaiaaDoor.Plain
set_option linter.unusedVariables false
set_option linter.unusedSimpArgs false
theorem CodeRead_ev (l : List PartT) (hl : l.length ≤ 4398046511104) (hg : ∀ p ∈ l, 0 ≤ p.f1 ∧ p.f1 < 18446744073709551616) (s : ByteArray) : Ev (fun k => millhandlaw01_CodeRead.f k l s) true := by
  unfold millhandlaw01_CodeRead.f
  refine Ev.bind codeAlive_ev (ev_pos rfl ?_)
  obtain ⟨b, hb, hc⟩ := heavy_ev l
  refine Ev.bind hb ?_
  cases b with
  | true => exact ev_pos rfl (Ev.step (fun _ => millhandlaw01_CodeRead.j0.eq_2 ..) (ev_pos rfl (Ev.now _)))
  | false =>
    refine ev_neg (by decide) ?_
    by_cases h5 : (s.size : Int) > 100000
    · rw [decide_eq_true h5]
      exact Ev.step (fun _ => millhandlaw01_CodeRead.j0.eq_2 ..) (ev_pos rfl (Ev.now _))
    · rw [decide_eq_false h5]
      have last : Ev (fun k => millhandlaw01_CodeRead.j1 k s true) true := by
        refine Ev.step (fun _ => millhandlaw01_CodeRead.j1.eq_2 ..) (Ev.bind (code_Parts_ev s) ?_)
        by_cases h : (partsS s).2 = 0
        · refine ev_pos h (Ev.bind (code_Key_ev _) ?_)
          rw [parts_fine s h]
          exact ev_pos rfl (ev_pos rfl (ev_some (by simp)))
        · refine ev_neg h (ev_pos rfl ?_)
          rw [parts_bad s h]
          exact Ev.now _
      refine Ev.step (fun _ => millhandlaw01_CodeRead.j0.eq_2 ..) (ev_neg (by decide) (Ev.bind (code_Key_ev l) ?_))
      by_cases h : (keyS l).2 = 0
      · obtain ⟨h1, h8, hok, hz, he⟩ := keyS_inv l hg h
        have hp := parts_key l h1 h8 hok hz
        have hs : (⟨(keyU l).toArray⟩ : ByteArray).size = (keyU l).length := by rw [Lib.size_eq]
        have hn : 0 < (keyU l).length := by
          cases l with
          | nil => simp at h1
          | cons p l =>
            have := partU_ne p
            have := List.length_pos_iff.mpr this
            simp only [keyU, List.flatMap_cons, List.length_append]
            omega
        refine ev_pos h (Ev.bind (code_Parts_ev _) ?_)
        rw [he, hp]
        exact ev_pos rfl (Ev.bind (same_refl l hl) (ev_pos rfl (ev_neg (show ¬ ((⟨(keyU l).toArray⟩ : ByteArray).size : Int) < 1 by omega) (ev_neg (show ¬ ((⟨(keyU l).toArray⟩ : ByteArray).size : Int) > 64 by omega) last))))
      · exact ev_neg h last
theorem CodeRead_walk (w : World) (A0 : Option Addr) (c0 : Nat) (l0 : List PartT) (r0 : Kd.C k50 w A0 l0.length l0) (q0 : l0.length ≤ c0) (g0_ : (l0.length * 32 ≤ 140737488351232 ∧ l0.length ≤ 9223372036854775807 ∧ ∀ y0 ∈ l0, g50 y0)) (a1 : ByteArray) (g1_ : a1.size ≤ 140737488351232) :
    Calls Tryd.prog 4 #[.slice A0 l0.length c0, .string a1] w fun e w' => e = .returned (.bool true) ∧ Below w.heap.size w w' := by
  obtain ⟨k, h⟩ := (CodeRead_ev l0 (by omega) (fun p hp => wfu64.mp (g0_.2.2 p hp).2.1) a1).rounds
  exact millhandlaw01_CodeRead.calls k A0 c0 l0 a1 true w r0 q0 h
end Go.Proofs.YtagdmgjdhbmaiaaDoor.R

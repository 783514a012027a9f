/- What the Go functions of BatchNames come to, in plain words. -/
import Derived.Test.YtonbfefceblfgaaRx8
import Derived.Test.YtonbfefceblfgaaRx7
import Derived.Test.YtonbfefceblfgaaRLaws
namespace Go.Proofs.Ytonbfefceblfgaa.R
open Go.RowKit Go.Proofs.YtonbfefceblfgaaW.PrintWords Go.Proofs.Ytonbfefceblfgaa.Plain
set_option linter.unusedVariables false

/-! ### entries -/
def numS (s : Int) : List OpT → List EnT
  | [] => []
  | o :: t => ⟨o.f0, s, o.f1, o.f2⟩ :: numS (s + 1) t
theorem numS_length (l : List OpT) : ∀ s, (numS s l).length = l.length := by
  induction l with
  | nil => exact fun _ => rfl
  | cons o t ih => exact fun s => by simp [numS, ih]
def entriesS (s : Int) (l : List OpT) : List EnT × Int := if askedS s l = 0 then (numS s l, 0) else ([], askedS s l)
theorem batch_Entries_l0 (s : Int) (hs : 0 ≤ s) (hs2 : s ≤ 1099511627776) (l : List OpT) (hl : l.length ≤ 64) : ∀ (d i : Nat) (acc : List EnT), i + d = l.length → acc.length + d ≤ 64 →
    Ev (fun k => batch_Entries.l0 k s acc l (l.length : Int) (i : Int)) (acc ++ numS (s + i) (l.drop i), 0)
  | 0, i, acc, h, ha => by
    refine Ev.step (fun _ => batch_Entries.l0.eq_2 ..) (ev_neg (by omega) (ev_some ?_))
    rw [List.drop_of_length_le (by omega)]
    simp [numS]
  | d + 1, i, acc, h, ha => by
    have hi : i < l.length := by omega
    refine Ev.step (fun _ => batch_Entries.l0.eq_2 ..) (ev_pos (by omega) (ev_pos (by omega) (ev_pos (by omega) (ev_pos (by omega) ?_))))
    rw [rd_op l i hi, List.drop_eq_getElem_cons hi, w64 (by omega) (by omega), w64 (by omega) (by omega)]
    have ih := batch_Entries_l0 s hs hs2 l hl d (i + 1) (acc ++ [⟨l[i].f0, s + i, l[i].f1, l[i].f2⟩]) (by omega) (by simp; omega)
    refine ev_eq ih ?_
    simp [numS, Int.add_assoc]
theorem batch_Entries_ev (s : Int) (l : List OpT) (hl : l.length < 9223372036854775807) : Ev (fun k => batch_Entries.f k s l) (entriesS s l) := by
  unfold batch_Entries.f entriesS
  refine Ev.bind (batch_asked_ev s l hl) (ev_ite (fun ha => ?_) (fun _ => Ev.now _))
  obtain ⟨h1, h2, h3, h4, h5⟩ := asked_ok ha
  have := batch_Entries_l0 s (by omega) (by omega) l h4 l.length 0 [] (by omega) (by simpa using h4)
  simpa using this

theorem entries_two : entriesS 300 twoS = ([(⟨(⟨#[97]⟩ : ByteArray), 300, false, (⟨#[120, 121]⟩ : ByteArray)⟩ : EnT), (⟨(⟨#[98]⟩ : ByteArray), 301, true, (⟨#[]⟩ : ByteArray)⟩ : EnT)], 0) := by
  unfold entriesS
  rw [if_pos asked_two]
  rfl
theorem read_short : batch_Read.f ([172, 2, 2, 0, 1, 97, 2, 120, 121, 1, 1] : List Int) = some (0, [], 8) := by
  have h := readBatch_cut asked_two (by rw [all_two]; decide) (n := 11) (by rw [all_two]; decide)
  have hb := allS_bytes 300 twoS
  rw [all_two] at h hb
  unfold batch_Read.f
  rw [if_pos ⟨fun x hx => hb x (List.mem_of_mem_take (i := 11) hx), by decide⟩]
  exact congrArg some h
theorem read_long : batch_Read.f (List.replicate 16385 0) = some (0, [], 3) := by
  unfold batch_Read.f
  rw [if_pos ⟨fun x hx => by rw [List.eq_of_mem_replicate hx]; decide, by rw [List.length_replicate]; omega⟩]
  unfold readBatch
  rw [if_pos (by rw [List.length_replicate]; omega)]
theorem write_none : writeS 1 [] = ([], 4) := by rfl
theorem write_zero : writeS 0 twoS = ([], 2) := by rfl
theorem check_bad : checkS [(⟨(⟨#[97]⟩ : ByteArray), true, (⟨#[120]⟩ : ByteArray)⟩ : OpT)] = 8 := by
  unfold checkS
  rw [if_neg (by decide), if_neg (by simp [mayS, ByteArray.toList_eq])]
theorem BatchNames_ev : Ev (fun k => millhandlaw10_BatchNames.f k) true := by
  unfold millhandlaw10_BatchNames.f millhandlaw10_two.f
  simp only [Option.bind_some]
  refine Ev.bind (batch_Entries_ev 300 twoS (by decide)) (Ev.bind (batch_Write_ev 300 twoS (by decide)) ?_)
  rw [entries_two, write_two]
  have hw : wrap64 ((([172, 2, 2, 0, 1, 97, 2, 120, 121, 1, 1, 98] : List Int).length : Int) - 1) = 11 := by
    rw [w64 (by decide) (by decide)]
    rfl
  refine ev_neg (by decide) (Ev.step (fun _ => millhandlaw10_BatchNames.j0.eq_2 ..) (ev_neg (by decide) ?_))
  obtain ⟨z, hz⟩ : ∃ z, z = List.replicate 16385 (0 : Int) := ⟨_, rfl⟩
  have hrl : batch_Read.f z = some (0, [], 3) := by rw [hz]; exact read_long
  simp only [hw, ← hz]
  refine ev_pos (by decide) (ev_pos (by decide) ?_)
  rw [show (List.take (11 : Int).toNat ([172, 2, 2, 0, 1, 97, 2, 120, 121, 1, 1, 98] : List Int)) = [172, 2, 2, 0, 1, 97, 2, 120, 121, 1, 1] by rfl, read_short]
  simp only [Option.bind_some]
  refine Ev.bind (batch_Write_ev 1 [] (by decide)) ?_
  rw [write_none]
  unfold millhandlaw10_two.f
  simp only [Option.bind_some]
  refine Ev.bind (batch_Write_ev 0 twoS (by decide)) ?_
  rw [write_zero, hrl]
  simp only [Option.bind_some]
  refine ev_pos (by decide) (ev_pos trivial (ev_pos (by decide) (ev_pos (by simp [rd_T51, ByteArray.toList_eq]) (ev_pos (by decide) ?_))))
  refine Ev.step (fun _ => millhandlaw10_BatchNames.j1.eq_2 ..) (Ev.bind alive_ev (ev_pos rfl (ev_pos (by simp [rd_T51, ByteArray.toList_eq]) (ev_pos rfl (ev_pos rfl (ev_pos rfl (ev_pos rfl ?_)))))))
  refine Ev.bind (batch_Check_ev _ (by decide)) ?_
  rw [check_bad]
  refine ev_pos rfl ?_
  unfold millhandlaw10_two.f
  simp only [Option.bind_some]
  refine Ev.bind (batch_Check_ev twoS (by decide)) ?_
  rw [check_two]
  exact ev_some rfl
theorem BatchNames_walk (w : World) :
    Calls Try.prog 7 #[] w fun e w' => e = .returned (.bool true) ∧ Below w.heap.size w w' := by
  obtain ⟨k, h⟩ := BatchNames_ev.rounds
  exact millhandlaw10_BatchNames.calls k true w h
end Go.Proofs.Ytonbfefceblfgaa.R

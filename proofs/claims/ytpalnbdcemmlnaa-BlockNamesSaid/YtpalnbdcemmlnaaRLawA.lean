/- The law BlockBack in plain words. -/
import Derived.Test.YtpalnbdcemmlnaaRx2
import Derived.Test.YtpalnbdcemmlnaaRx10
import Derived.Test.YtpalnbdcemmlnaaRBack1
import Derived.Test.YtpalnbdcemmlnaaROp
namespace Go.Proofs.Ytpalnbdcemmlnaa.R
open Go.RowKit Go.Proofs.YtpalnbdcemmlnaaW.PrintWords Go.Proofs.YtpalnbdcemmlnaaW.PrintLast Go.Proofs.YtpalnbdcemmlnaaW.PrintMore Go.Proofs.Ytpalnbdcemmlnaa.Plain
set_option linter.unusedVariables false

/-! ### the laws -/
theorem ref12_Heavy_l0 (l : List EnT) (hl : l.length < 9223372036854775807) : ∀ (d i : Nat) (n : Int), i + d = l.length → ∃ r, Ev (fun k => millhandref12_Heavy.l0 k l n (i : Int)) r
  | 0, i, n, h => by
    by_cases h1 : (l.length : Int) > 1100
    · exact ⟨_, Ev.step (fun _ => millhandref12_Heavy.l0.eq_2 ..) (ev_neg (by omega) (ev_pos h1 (Ev.now _)))⟩
    · exact ⟨_, Ev.step (fun _ => millhandref12_Heavy.l0.eq_2 ..) (ev_neg (by omega) (ev_neg h1 (Ev.now _)))⟩
  | d + 1, i, n, h => by
    by_cases h2 : (i : Int) < 2000
    · obtain ⟨r, hr⟩ := ref12_Heavy_l0 l hl d (i + 1) (wrap64 ((wrap64 (n + (mn (((rd_T39 l (i : Int)).f0).size : Int) 100000))) + (mn (((rd_T39 l (i : Int)).f3).size : Int) 100000))) (by omega)
      refine ⟨r, Ev.step (fun _ => millhandref12_Heavy.l0.eq_2 ..) (ev_pos (by omega) (ev_pos h2 (ev_pos (by omega) ?_)))⟩
      rw [w64 (i := (i : Int) + 1) (by omega) (by omega)]
      exact hr
    · by_cases h1 : (l.length : Int) > 1100
      · exact ⟨_, Ev.step (fun _ => millhandref12_Heavy.l0.eq_2 ..) (ev_pos (by omega) (ev_neg h2 (ev_pos h1 (Ev.now _))))⟩
      · exact ⟨_, Ev.step (fun _ => millhandref12_Heavy.l0.eq_2 ..) (ev_pos (by omega) (ev_neg h2 (ev_neg h1 (Ev.now _))))⟩
theorem ref12_Heavy_ev (l : List EnT) (hl : l.length < 9223372036854775807) : ∃ r, Ev (fun k => millhandref12_Heavy.f k l) r := by
  unfold millhandref12_Heavy.f
  exact ref12_Heavy_l0 l hl l.length 0 0 (by omega)
theorem ref12_Same_l0 (l : List EnT) (hl : l.length < 9223372036854775807) : ∀ (d i : Nat), i + d = l.length → Ev (fun k => millhandref12_Same.l0 k l l (i : Int)) true
  | 0, i, h => Ev.step (fun _ => millhandref12_Same.l0.eq_2 ..) (ev_neg (by omega) (Ev.now _))
  | d + 1, i, h => by
    refine Ev.step (fun _ => millhandref12_Same.l0.eq_2 ..) (ev_pos (by omega) (ev_pos (by omega) (ev_pos (by omega) (ev_neg (by simp) ?_))))
    rw [w64 (by omega) (by omega)]
    exact ref12_Same_l0 l hl d (i + 1) (by omega)
theorem ref12_Same_ev (l : List EnT) (hl : l.length < 9223372036854775807) : Ev (fun k => millhandref12_Same.f k l l) true := by
  unfold millhandref12_Same.f
  exact ev_pos rfl (ref12_Same_l0 l hl l.length 0 (by omega))
theorem readB_len (b : List Int) : (readB b).1.length ≤ 1024 := by
  by_cases h : (readB b).2 = 0
  · exact (writeS_len (readB_ok h).1).2
  · rw [readB_bad h]; exact Nat.zero_le _
theorem block_Read_eq {b : List Int} (h : ∀ x ∈ b, 0 ≤ x ∧ x ≤ 255) (hl : b.length ≤ 140737488351232) : block_Read.f b = some (readB b) := by
  unfold block_Read.f
  rw [if_pos ⟨h, hl⟩]
def threeS : List EnT := [(⟨(⟨#[97, 98]⟩ : ByteArray), 2, false, (⟨#[120]⟩ : ByteArray)⟩ : EnT), (⟨(⟨#[97, 98]⟩ : ByteArray), 1, true, (⟨#[]⟩ : ByteArray)⟩ : EnT), (⟨(⟨#[97, 99]⟩ : ByteArray), 7, false, (⟨#[]⟩ : ByteArray)⟩ : EnT)]
theorem ord_three : ordF none threeS = true := by
  simp [threeS, ordF, stepS, okS, mayS, keyedS, ByteArray.toList_eq]
  decide
theorem all_three : allS threeS = [3, 0, 2, 97, 98, 2, 0, 1, 120, 2, 0, 1, 1, 1, 1, 99, 7, 0, 0] := by
  have s : ∀ n, n < 128 → smallN n = [(n : Int)] := fun n h => smallN_lt h
  have t1 : entB ⟨#[]⟩ (⟨(⟨#[97, 98]⟩ : ByteArray), 2, false, (⟨#[120]⟩ : ByteArray)⟩ : EnT) = [0, 2, 97, 98, 2, 0, 1, 120] := by
    unfold entB textS
    rw [s _ (by decide), s _ (by decide), s _ (by decide), s _ (by decide)]
    rfl
  have t2 : entB ⟨#[97, 98]⟩ (⟨(⟨#[97, 98]⟩ : ByteArray), 1, true, (⟨#[]⟩ : ByteArray)⟩ : EnT) = [2, 0, 1, 1] := by
    unfold entB textS
    rw [s _ (by decide), s _ (by decide), s _ (by decide)]
    rfl
  have t3 : entB ⟨#[97, 98]⟩ (⟨(⟨#[97, 99]⟩ : ByteArray), 7, false, (⟨#[]⟩ : ByteArray)⟩ : EnT) = [1, 1, 99, 7, 0, 0] := by
    unfold entB textS
    rw [s _ (by decide), s _ (by decide), s _ (by decide), s _ (by decide)]
    rfl
  unfold allS threeS
  simp only [bodyS, t1, t2, t3]
  rw [s _ (by decide)]
  rfl
theorem write_three : writeS threeS = ([3, 0, 2, 97, 98, 2, 0, 1, 120, 2, 0, 1, 1, 1, 1, 99, 7, 0, 0], 0) := by
  unfold writeS
  rw [if_neg (by decide), if_pos ord_three, all_three, if_neg (by decide)]
theorem read_three : readB ([3, 0, 2, 97, 98, 2, 0, 1, 120, 2, 0, 1, 1, 1, 1, 99, 7, 0, 0] : List Int) = (threeS, 0) := by
  have := readB_write (l := threeS) (by rw [write_three])
  rw [write_three] at this
  exact this
theorem three_eq : millhandlaw12_three.f = some threeS := rfl
theorem alive_ev : Ev (fun k => millhandlaw12_alive.f k) true := by
  unfold millhandlaw12_alive.f
  simp only [three_eq, Option.bind_some]
  refine Ev.bind (block_Write_ev threeS (by decide)) ?_
  rw [write_three]
  simp only
  rw [block_Read_eq (by decide) (by decide), read_three]
  simp only [Option.bind_some]
  refine ev_pos trivial (ev_pos trivial (ev_pos (by rw [ByteArray.toList_eq]; rfl) ?_))
  exact Ev.bind (ref12_Same_ev threeS (by decide)) (Ev.now _)
theorem BlockBack_j1 (b : List Int) (h : ∀ x ∈ b, 0 ≤ x ∧ x ≤ 255) (hl : b.length ≤ 140737488351232) : Ev (fun k => millhandlaw12_BlockBack.j1 k b true) true := by
  refine Ev.step (fun _ => millhandlaw12_BlockBack.j1.eq_2 ..) ?_
  rw [block_Read_eq h hl]
  simp only [Option.bind_some]
  by_cases h2 : (readB b).2 = 0
  · obtain ⟨h3, h4⟩ := readB_ok h2
    refine ev_pos h2 (Ev.bind (block_Write_ev _ (by have := readB_len b; omega)) (ev_pos (by first | rfl | trivial) (ev_pos h3 (ev_some ?_))))
    rw [h4]
    simp
  · refine ev_neg h2 (ev_pos (by first | rfl | trivial) (ev_some ?_))
    rw [readB_bad h2]
    rfl
theorem BlockBack_ev (l : List EnT) (b : List Int) (hl : l.length * 48 ≤ 140737488351232) (h : ∀ x ∈ b, 0 ≤ x ∧ x ≤ 255) (hb : b.length ≤ 140737488351232) : Ev (fun k => millhandlaw12_BlockBack.f k l b) true := by
  unfold millhandlaw12_BlockBack.f
  have hT : Ev (fun k => millhandlaw12_BlockBack.j0 k l b true true) true := Ev.step (fun _ => millhandlaw12_BlockBack.j0.eq_2 ..) (ev_pos rfl (Ev.now _))
  refine Ev.bind alive_ev (ev_pos (by first | rfl | trivial) ?_)
  obtain ⟨g, hg⟩ := ref12_Heavy_ev l (by omega)
  refine Ev.bind hg ?_
  cases g with
  | true => exact ev_pos rfl hT
  | false =>
    refine ev_neg (by simp) ?_
    by_cases h1 : (b.length : Int) > 10000
    · rw [decide_eq_true h1]; exact hT
    · rw [decide_eq_false h1]
      refine Ev.step (fun _ => millhandlaw12_BlockBack.j0.eq_2 ..) (ev_neg (by simp) (Ev.bind (block_Write_ev l (by omega)) ?_))
      by_cases h2 : (writeS l).2 = 0
      · obtain ⟨h3, h4, h5, h6⟩ := writeS_ok h2
        have hr := readB_write h2
        refine ev_pos h2 ?_
        rw [block_Read_eq (writeS_range l) (by rw [h6]; omega), hr]
        simp only [Option.bind_some]
        refine ev_pos trivial (Ev.bind (ref12_Same_ev l (by omega)) (ev_pos rfl (ev_neg (by rw [h6]; omega) (BlockBack_j1 b h hb))))
      · exact ev_neg h2 (BlockBack_j1 b h hb)
theorem BlockBack_walk (w : World) (A0 : Option Addr) (c0 : Nat) (l0 : List EnT) (r0 : Kd.C k39 w A0 l0.length l0) (q0 : l0.length ≤ c0) (g0_ : (l0.length * 48 ≤ 140737488351232 ∧ l0.length ≤ 9223372036854775807 ∧ ∀ y0 ∈ l0, g39 y0)) (A1 : Option Addr) (c1 : Nat) (l1 : List Int) (r1 : Kd.C (Kd.int .u8) w A1 l1.length l1) (q1 : l1.length ≤ c1) (g1_ : (l1.length * 1 ≤ 140737488351232 ∧ l1.length ≤ 9223372036854775807 ∧ ∀ y0 ∈ l1, (Lit.int .u8 y0).wf = true)) :
    Calls Try.prog 4 #[.slice A0 l0.length c0, .slice A1 l1.length c1] w fun e w' => e = .returned (.bool true) ∧ Below w.heap.size w w' := by
  obtain ⟨k, h⟩ := (BlockBack_ev l0 l1 g0_.1 (fun x hx => wfu8.mp (g1_.2.2 x hx)) (by omega)).rounds
  exact millhandlaw12_BlockBack.calls k A0 c0 l0 A1 c1 l1 true w r0 q0 r1 q1 h
end Go.Proofs.Ytpalnbdcemmlnaa.R

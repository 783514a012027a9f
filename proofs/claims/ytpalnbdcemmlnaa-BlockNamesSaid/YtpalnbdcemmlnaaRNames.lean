/- The law BlockNames in plain words. -/
import Derived.Test.YtpalnbdcemmlnaaRx12
import Derived.Test.YtpalnbdcemmlnaaRFind
namespace Go.Proofs.Ytpalnbdcemmlnaa.R
open Go.RowKit Go.Proofs.YtpalnbdcemmlnaaW.PrintWords Go.Proofs.YtpalnbdcemmlnaaW.PrintLast Go.Proofs.YtpalnbdcemmlnaaW.PrintMore Go.Proofs.Ytpalnbdcemmlnaa.Plain
set_option linter.unusedVariables false

theorem find_three (key : ByteArray) (seq : Int) (h : askS key seq = 0) : findB ([3, 0, 2, 97, 98, 2, 0, 1, 120, 2, 0, 1, 1, 1, 1, 99, 7, 0, 0] : List Int) key seq = outS (findS threeS key seq) := by
  unfold findB
  rw [read_three, if_pos rfl, if_pos h]
theorem find_asked (key : ByteArray) (seq : Int) (h : askS key seq ≠ 0) : findB ([3, 0, 2, 97, 98, 2, 0, 1, 120, 2, 0, 1, 1, 1, 1, 99, 7, 0, 0] : List Int) key seq = (⟨#[]⟩, 0, false, ⟨#[]⟩, false, askS key seq) := by
  unfold findB
  rw [read_three, if_pos rfl, if_neg h]
theorem find_ab9 : findS threeS ⟨#[97, 98]⟩ 9 = some (⟨(⟨#[97, 98]⟩ : ByteArray), 2, false, (⟨#[120]⟩ : ByteArray)⟩ : EnT) := by
  simp [findS, threeS, hitS, ByteArray.toList_eq]
theorem find_ab1 : findS threeS ⟨#[97, 98]⟩ 1 = some (⟨(⟨#[97, 98]⟩ : ByteArray), 1, true, (⟨#[]⟩ : ByteArray)⟩ : EnT) := by
  simp [findS, threeS, hitS, ByteArray.toList_eq]
theorem find_ab0 : findS threeS ⟨#[97, 98]⟩ 0 = none := by
  simp [findS, threeS, hitS, ByteArray.toList_eq]
theorem find_aa9 : findS threeS ⟨#[97, 97]⟩ 9 = none := by
  simp [findS, threeS, hitS, ByteArray.toList_eq]
theorem write_nil : writeS [] = ([], 4) := rfl
theorem write_ba : writeS [(⟨(⟨#[98]⟩ : ByteArray), 1, false, (⟨#[]⟩ : ByteArray)⟩ : EnT), (⟨(⟨#[97]⟩ : ByteArray), 1, false, (⟨#[]⟩ : ByteArray)⟩ : EnT)] = ([], 8) := by
  unfold writeS
  rw [if_neg (by decide), if_neg]
  simp [ordF, stepS, okS, mayS, keyedS, ByteArray.toList_eq]
  decide
theorem write_aa : writeS [(⟨(⟨#[97]⟩ : ByteArray), 1, false, (⟨#[]⟩ : ByteArray)⟩ : EnT), (⟨(⟨#[97]⟩ : ByteArray), 2, false, (⟨#[]⟩ : ByteArray)⟩ : EnT)] = ([], 8) := by
  unfold writeS
  rw [if_neg (by decide), if_neg]
  simp [ordF, stepS, okS, mayS, keyedS, ByteArray.toList_eq]
theorem read_bare : readB ([1, 0, 0, 1, 0, 0] : List Int) = ([], 8) := by
  have hw : (writeS [(⟨(⟨#[]⟩ : ByteArray), 1, false, (⟨#[]⟩ : ByteArray)⟩ : EnT)]).2 ≠ 0 := by
    unfold writeS
    rw [if_neg (by decide), if_neg]
    · decide
    · simp [ordF, mayS, keyedS]
      decide
  have he : entsFrom 1 ⟨#[]⟩ ([0, 0, 1, 0, 0] : List Int) [] = some ([(⟨(⟨#[]⟩ : ByteArray), 1, false, (⟨#[]⟩ : ByteArray)⟩ : EnT)], []) := rfl
  have hn : numS 1024 ([1, 0, 0, 1, 0, 0] : List Int) false = (1, [0, 0, 1, 0, 0], false) := rfl
  unfold readB
  rw [if_neg (by decide), hn]
  dsimp only
  rw [show (1 : Int).toNat = 1 from rfl, he]
  dsimp only
  rw [if_pos (Or.inr (Or.inl hw))]
theorem BlockNames_ev : Ev (fun k => millhandlaw12_BlockNames.f k) true := by
  have a1 : askS ⟨#[97, 98]⟩ 9 = 0 := by decide
  have a2 : askS ⟨#[97, 98]⟩ 1 = 0 := by decide
  have a3 : askS ⟨#[97, 98]⟩ 0 = 0 := by decide
  have a4 : askS ⟨#[97, 97]⟩ 9 = 0 := by decide
  have a5 : askS ⟨#[]⟩ 1 = 3 := by decide
  have a6 : askS ⟨#[97]⟩ (-1) = 2 := by decide
  have rb : ∀ x ∈ ([3, 0, 2, 97, 98, 2, 0, 1, 120, 2, 0, 1, 1, 1, 1, 99, 7, 0, 0] : List Int), 0 ≤ x ∧ x ≤ 255 := by decide
  unfold millhandlaw12_BlockNames.f
  simp only [three_eq, Option.bind_some]
  refine Ev.bind (block_Write_ev threeS (by decide)) ?_
  rw [write_three]
  refine Ev.bind (block_Find_ev _ ⟨#[97, 98]⟩ 9 rb (by decide)) (Ev.bind (block_Find_ev _ ⟨#[97, 98]⟩ 1 rb (by decide)) (Ev.bind (block_Find_ev _ ⟨#[97, 98]⟩ 0 rb (by decide)) (Ev.bind (block_Find_ev _ ⟨#[97, 97]⟩ 9 rb (by decide)) ?_)))
  rw [find_three _ _ a1, find_three _ _ a2, find_three _ _ a3, find_three _ _ a4, find_ab9, find_ab1, find_ab0, find_aa9]
  refine Ev.bind (block_Write_ev _ (by decide)) (Ev.bind (block_Write_ev _ (by decide)) (Ev.bind (block_Write_ev _ (by decide)) ?_))
  rw [write_nil, write_ba, write_aa, block_Read_eq (by decide) (by decide), read_bare]
  simp only [Option.bind_some]
  refine Ev.bind (block_Find_ev _ ⟨#[]⟩ 1 rb (by decide)) (Ev.bind (block_Find_ev _ ⟨#[97]⟩ (-1) rb (by decide)) (Ev.bind alive_ev ?_))
  rw [find_asked _ _ (by rw [a5]; decide), find_asked _ _ (by rw [a6]; decide), a5, a6]
  unfold outS
  have hc : commonS ⟨#[97, 98, 99]⟩ ⟨#[97, 98, 100]⟩ = 2 := by decide
  have hce := block_Common_ev ⟨#[97, 98, 99]⟩ ⟨#[97, 98, 100]⟩ (by decide) (by decide)
  rw [hc] at hce
  refine ev_pos rfl (ev_pos rfl (ev_pos rfl (ev_pos (by decide) (ev_pos (by simp [threeS, rd_T39, ByteArray.toList_eq]) (ev_pos rfl (ev_pos rfl (ev_pos (by decide) (ev_pos (by simp [threeS, rd_T39, ByteArray.toList_eq]) ?_))))))))
  refine ev_neg (by decide) (ev_pos (by first | rfl | trivial) (ev_neg (by decide) (ev_pos (by first | rfl | trivial) (ev_pos (by first | rfl | trivial) (ev_pos (by first | rfl | trivial) (ev_pos (by first | rfl | trivial) ?_))))))
  exact ev_pos (by first | rfl | trivial) (ev_pos (by first | rfl | trivial) (ev_pos (by first | rfl | trivial) (Ev.bind hce (ev_some rfl))))
theorem BlockNames_walk (w : World) :
    Calls Try.prog 5 #[] w fun e w' => e = .returned (.bool true) ∧ Below w.heap.size w w' := by
  obtain ⟨k, h⟩ := BlockNames_ev.rounds
  exact millhandlaw12_BlockNames.calls k true w h rfl
end Go.Proofs.Ytpalnbdcemmlnaa.R

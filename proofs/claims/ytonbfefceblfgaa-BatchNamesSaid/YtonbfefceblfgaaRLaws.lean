/- What the Go functions of the chapter's laws come to, in plain words. -/
import Derived.Test.YtonbfefceblfgaaRx7
import Derived.Test.YtonbfefceblfgaaRx6
import Derived.Test.YtonbfefceblfgaaRBack
import Derived.Test.YtonbfefceblfgaaROp
namespace Go.Proofs.Ytonbfefceblfgaa.R
open Go.RowKit Go.Proofs.YtonbfefceblfgaaW.PrintWords Go.Proofs.Ytonbfefceblfgaa.Plain
set_option linter.unusedVariables false
theorem ref10_GreatOps_l0 (l : List OpT) (hl : l.length < 9223372036854775807) : ∀ (d i : Nat) (n : Int), i + d = l.length → ∃ r, Ev (fun k => millhandref10_GreatOps.l0 k l n (i : Int)) r
  | 0, i, n, h => ⟨_, Ev.step (fun _ => millhandref10_GreatOps.l0.eq_2 ..) (ev_neg (by omega) (Ev.now _))⟩
  | d + 1, i, n, h => by
    by_cases hn : n ≤ 100000
    · obtain ⟨r, hr⟩ := ref10_GreatOps_l0 l hl d (i + 1) (wrap64 (n + (wrap64 ((wrap64 (10 + (((rd_T49 l i).f0).size : Int))) + (((rd_T49 l i).f2).size : Int))))) (by omega)
      refine ⟨r, Ev.step (fun _ => millhandref10_GreatOps.l0.eq_2 ..) (ev_pos (by omega) (ev_pos hn (ev_pos (by omega) ?_)))⟩
      rw [w64 (i := (i : Int) + 1) (by omega) (by omega)]
      exact hr
    · exact ⟨_, Ev.step (fun _ => millhandref10_GreatOps.l0.eq_2 ..) (ev_pos (by omega) (ev_neg hn (Ev.now _)))⟩
theorem ref10_GreatOps_ev (l : List OpT) (hl : l.length < 9223372036854775807) : ∃ r, Ev (fun k => millhandref10_GreatOps.f k l) r := by
  unfold millhandref10_GreatOps.f
  exact ref10_GreatOps_l0 l hl l.length 0 0 (by omega)

/-! ### sameness -/
theorem ref10_SameOps_l0 (l : List OpT) (hl : l.length < 9223372036854775807) : ∀ (d i : Nat), i + d = l.length → Ev (fun k => millhandref10_SameOps.l0 k l l (i : Int)) true
  | 0, i, h => Ev.step (fun _ => millhandref10_SameOps.l0.eq_2 ..) (ev_neg (by omega) (Ev.now _))
  | d + 1, i, h => by
    refine Ev.step (fun _ => millhandref10_SameOps.l0.eq_2 ..) (ev_pos (by omega) (ev_pos (by omega) (ev_pos (by omega) (ev_neg (by simp) ?_))))
    rw [w64 (by omega) (by omega)]
    exact ref10_SameOps_l0 l hl d (i + 1) (by omega)
theorem ref10_SameOps_ev (l : List OpT) (hl : l.length < 9223372036854775807) : Ev (fun k => millhandref10_SameOps.f k l l) true := by
  unfold millhandref10_SameOps.f
  exact ev_pos rfl (ref10_SameOps_l0 l hl l.length 0 (by omega))

/-! ### the chapter's first example -/
def twoS : List OpT := [(⟨(⟨#[97]⟩ : ByteArray), false, (⟨#[120, 121]⟩ : ByteArray)⟩ : OpT), (⟨(⟨#[98]⟩ : ByteArray), true, (⟨#[]⟩ : ByteArray)⟩ : OpT)]
theorem may_two : ∀ o ∈ twoS, mayS o = true := by
  intro o ho
  simp only [twoS, List.mem_cons, List.not_mem_nil, or_false] at ho
  rcases ho with rfl | rfl
  · rfl
  · simp [mayS, ByteArray.toList_eq]
    decide
theorem check_two : checkS twoS = 0 := by
  unfold checkS
  rw [if_neg (by decide), if_pos (List.all_eq_true.mpr may_two)]
theorem asked_two : askedS 300 twoS = 0 := by
  unfold askedS
  rw [if_neg (by decide), if_neg (by decide), check_two]
theorem all_two : allS 300 twoS = [172, 2, 2, 0, 1, 97, 2, 120, 121, 1, 1, 98] := by
  have h300 : smallN 300 = [172, 2] := by rw [smallN_ge (by decide), smallN_lt (by decide)]; rfl
  have h2 : smallN 2 = [2] := smallN_lt (by decide)
  have h1 : smallN 1 = [1] := smallN_lt (by decide)
  have a : textS ⟨#[97]⟩ = [1, 97] := by unfold textS; rw [show (⟨#[97]⟩ : ByteArray).size = 1 from rfl, h1]; rfl
  have b : textS ⟨#[120, 121]⟩ = [2, 120, 121] := by unfold textS; rw [show (⟨#[120, 121]⟩ : ByteArray).size = 2 from rfl, h2]; rfl
  have c : textS ⟨#[98]⟩ = [1, 98] := by unfold textS; rw [show (⟨#[98]⟩ : ByteArray).size = 1 from rfl, h1]; rfl
  unfold allS
  rw [show (300 : Int).toNat = 300 from rfl, h300, show twoS.length = 2 from rfl, h2]
  show [172, 2] ++ [2] ++ ((0 :: (textS ⟨#[97]⟩ ++ textS ⟨#[120, 121]⟩)) ++ ((1 :: textS ⟨#[98]⟩) ++ [])) = _
  rw [a, b, c]
  rfl
theorem write_two : writeS 300 twoS = ([172, 2, 2, 0, 1, 97, 2, 120, 121, 1, 1, 98], 0) := by
  unfold writeS
  rw [if_pos asked_two, all_two, if_neg (by decide)]
theorem alive_ev : Ev (fun k => millhandlaw10_alive.f k) true := by
  unfold millhandlaw10_alive.f millhandlaw10_two.f
  simp only [Option.bind_some]
  refine Ev.bind (batch_Write_ev 300 twoS (by decide)) ?_
  rw [write_two]
  exact ev_pos rfl (ev_some (by simp))
theorem allS_bytes (s : Int) (l : List OpT) : ∀ x ∈ allS s l, 0 ≤ x ∧ x ≤ 255 := by
  have hb : ∀ (u : ByteArray), ∀ x ∈ bytesOf u, 0 ≤ x ∧ x ≤ 255 := fun u x hx => by
    unfold bytesOf at hx
    obtain ⟨y, _, rfl⟩ := List.mem_map.mp hx
    have := y.toNat_lt
    omega
  have ht : ∀ (u : ByteArray), ∀ x ∈ textS u, 0 ≤ x ∧ x ≤ 255 := fun u x hx => by
    unfold textS at hx
    rcases List.mem_append.mp hx with h | h
    · exact smallN_bytes _ x h
    · exact hb u x h
  intro x hx
  unfold allS at hx
  rcases List.mem_append.mp hx with h | h
  · rcases List.mem_append.mp h with h | h
    · exact smallN_bytes _ x h
    · exact smallN_bytes _ x h
  · unfold bodyS at h
    obtain ⟨o, _, ho⟩ := List.mem_flatMap.mp h
    unfold opS at ho
    split at ho
    · rcases List.mem_cons.mp ho with rfl | ho
      · decide
      · exact ht _ x ho
    · rcases List.mem_cons.mp ho with rfl | ho
      · decide
      · rcases List.mem_append.mp ho with ho | ho
        · exact ht _ x ho
        · exact ht _ x ho

theorem BatchOnly_ev (l : List Int) (hb : ∀ x ∈ l, 0 ≤ x ∧ x ≤ 255) : Ev (fun k => millhandlaw10_BatchOnly.f k l) true := by
  unfold millhandlaw10_BatchOnly.f
  refine Ev.bind alive_ev ?_
  by_cases hl : (l.length : Int) > 20000
  · exact ev_pos hl (Ev.step (fun _ => millhandlaw10_BatchOnly.j0.eq_2 ..) (ev_pos rfl (Ev.now _)))
  · refine ev_neg hl (Ev.step (fun _ => millhandlaw10_BatchOnly.j0.eq_2 ..) (ev_neg (by simp) ?_))
    have hf : batch_Read.f l = some (readBatch l) := if_pos ⟨hb, by omega⟩
    rw [hf]
    simp only [Option.bind_some]
    rcases readBatch_only hb with ⟨e, he, h⟩ | ⟨s, r, h, hw⟩
    · rw [h]
      exact ev_neg he (ev_pos rfl (ev_some rfl))
    · rw [h]
      have ha : askedS s r = 0 := by
        by_cases ha : askedS s r = 0
        · exact ha
        · unfold writeS at hw
          rw [if_neg ha] at hw
          exact (Prod.mk.inj hw).2
      have hr := (asked_ok ha).2.2.2.1
      refine ev_pos rfl (Ev.bind (batch_Write_ev s r (by omega)) ?_)
      rw [hw]
      exact ev_pos rfl (ev_some (by simp))
theorem BatchOnly_walk (w : World) (A0 : Option Addr) (c0 : Nat) (l0 : List Int) (r0 : Kd.C (Kd.int .u8) w A0 l0.length l0) (q0 : l0.length ≤ c0) (g0_ : (l0.length * 1 ≤ 140737488351232 ∧ l0.length ≤ 9223372036854775807 ∧ ∀ y0 ∈ l0, (Lit.int .u8 y0).wf = true)) :
    Calls Try.prog 6 #[.slice A0 l0.length c0] w fun e w' => e = .returned (.bool true) ∧ Below w.heap.size w w' := by
  obtain ⟨k, h⟩ := (BatchOnly_ev l0 (fun x hx => wfu8.mp (g0_.2.2 x hx))).rounds
  exact millhandlaw10_BatchOnly.calls k A0 c0 l0 true w r0 q0 h

theorem BatchBack_ev (s : Int) (l : List OpT) (c : Int) (hl : l.length * 40 ≤ 140737488351232) : Ev (fun k => millhandlaw10_BatchBack.f k s l c) true := by
  have hl2 : l.length < 9223372036854775807 := by omega
  unfold millhandlaw10_BatchBack.f
  refine Ev.bind alive_ev ?_
  obtain ⟨g, hg⟩ := ref10_GreatOps_ev l hl2
  refine Ev.bind hg ?_
  cases g with
  | true => exact ev_pos rfl (Ev.step (fun _ => millhandlaw10_BatchBack.j0.eq_2 ..) (ev_pos rfl (Ev.now _)))
  | false =>
    refine ev_neg (by simp) (Ev.step (fun _ => millhandlaw10_BatchBack.j0.eq_2 ..) (ev_neg (by simp) ?_))
    refine Ev.bind (batch_Write_ev s l hl2) ?_
    unfold writeS
    by_cases ha : askedS s l = 0
    · rw [if_pos ha]
      by_cases hb : (allS s l).length > 16384
      · rw [if_pos hb]
        exact ev_neg (by decide) (ev_some rfl)
      · rw [if_neg hb]
        have hf : batch_Read.f (allS s l) = some (s, l, 0) := by
          rw [← readBatch_all ha (by omega)]
          exact if_pos ⟨allS_bytes s l, by omega⟩
        refine ev_pos rfl ?_
        simp only
        rw [hf]
        simp only [Option.bind_some]
        refine ev_pos trivial (ev_pos trivial (Ev.bind (ref10_SameOps_ev l hl2) ?_))
        by_cases h1 : c < 0
        · exact ev_pos h1 (Ev.now _)
        · refine ev_neg h1 ?_
          by_cases h2 : c ≥ ((allS s l).length : Int)
          · exact ev_pos h2 (Ev.now _)
          · refine ev_neg h2 (ev_pos (by omega) (ev_pos (by omega) ?_))
            have hf2 : batch_Read.f ((allS s l).take c.toNat) = some (0, [], 8) := by
              rw [← readBatch_cut ha (by omega) (n := c.toNat) (by omega)]
              exact if_pos ⟨fun x hx => allS_bytes s l x (List.mem_of_mem_take hx), by rw [List.length_take]; omega⟩
            rw [hf2]
            simp only [Option.bind_some]
            exact ev_pos trivial (ev_some rfl)
    · rw [if_neg ha]
      exact ev_neg ha (ev_some rfl)
theorem BatchBack_walk (w : World) (a0 : Int) (g0_ : (Lit.int .i64 a0).wf = true) (A1 : Option Addr) (c1 : Nat) (l1 : List S49) (r1 : Kd.C k49 w A1 l1.length l1) (q1 : l1.length ≤ c1) (g1_ : (l1.length * 40 ≤ 140737488351232 ∧ l1.length ≤ 9223372036854775807 ∧ ∀ y0 ∈ l1, g49 y0)) (a2 : Int) (g2_ : (Lit.int .i64 a2).wf = true) :
    Calls Try.prog 5 #[.int .i64 a0, .slice A1 l1.length c1, .int .i64 a2] w fun e w' => e = .returned (.bool true) ∧ Below w.heap.size w w' := by
  obtain ⟨k, h⟩ := (BatchBack_ev a0 l1 a2 g1_.1).rounds
  exact millhandlaw10_BatchBack.calls k a0 A1 c1 l1 a2 true w r1 q1 h
end Go.Proofs.Ytonbfefceblfgaa.R

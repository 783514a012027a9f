/- What the Go functions of BatchReads come to, in plain words. -/
import Derived.Test.YtonbfefceblfgaaRx10
import Derived.Test.YtonbfefceblfgaaRx8
import Derived.Test.YtonbfefceblfgaaRx5
import Derived.Test.YtonbfefceblfgaaPlain
import Derived.Test.YtonbfefceblfgaaROp
namespace Go.Proofs.Ytonbfefceblfgaa.R
open Go.RowKit Go.Proofs.YtonbfefceblfgaaW.PrintWords Go.Proofs.Ytonbfefceblfgaa.Plain
set_option linter.unusedVariables false

/-- Where a number's last byte stands, from place i on. -/
def stopAt : Nat → List Int → Nat
  | i, [] => i
  | i, x :: t => if i < 10 ∧ 128 ≤ x then stopAt (i + 1) t else i
/-- The number that some bytes make. -/
def valS : List Int → Nat
  | [] => 0
  | x :: t => (x % 128).toNat + 128 * valS t
theorem stopAt_ge : ∀ (t : List Int) (i : Nat), i ≤ stopAt i t ∧ stopAt i t ≤ i + t.length
  | [], i => by simp [stopAt]
  | x :: t, i => by
    unfold stopAt
    have := stopAt_ge t (i + 1)
    simp only [List.length_cons]
    split <;> omega
/-- Reading, by where it stops. -/
theorem rd1_stop : ∀ (t : List Int) (i : Nat), i ≤ 9 → (∀ x ∈ t, 0 ≤ x ∧ x ≤ 255) →
    rd1 i t = if h : stopAt i t - i < t.length then (if 10 ≤ stopAt i t ∨ (stopAt i t = 9 ∧ 1 < t[stopAt i t - i]) ∨ (0 < stopAt i t ∧ t[stopAt i t - i] = 0) then none else some (valS (t.take (stopAt i t - i + 1)), stopAt i t - i + 1)) else none
  | [], i, hi, hb => by simp [rd1]
  | x :: t, i, hi, hb => by
    have hx := hb x (by simp)
    have hg := stopAt_ge t (i + 1)
    rw [rd1, stopAt]
    by_cases h128 : x < 128
    · rw [if_neg (show ¬ (i < 10 ∧ 128 ≤ x) by omega), dif_pos (by simp)]
      simp only [Nat.sub_self, List.getElem_cons_zero, Nat.zero_add, List.take_succ_cons, List.take_zero]
      by_cases h9 : i = 9 ∧ 1 < x
      · rw [if_pos h9, if_pos (by omega)]
      · rw [if_neg h9, if_pos h128]
        by_cases h0 : x = 0 ∧ 0 < i
        · rw [if_pos h0, if_pos (by omega)]
        · rw [if_neg h0, if_neg (by omega)]
          simp only [valS]
          congr 2
          omega
    · rw [if_pos (show i < 10 ∧ 128 ≤ x by omega)]
      by_cases h9 : i = 9
      · rw [if_pos (by omega)]
        subst h9
        split
        · rw [if_pos (by omega)]
        · rfl
      · rw [if_neg (by omega), if_neg h128, rd1_stop t (i + 1) (by omega) (fun y hy => hb y (List.mem_cons_of_mem _ hy))]
        by_cases hlt : stopAt (i + 1) t - (i + 1) < t.length
        · have e : stopAt (i + 1) t - i = (stopAt (i + 1) t - (i + 1)) + 1 := by omega
          rw [dif_pos hlt, dif_pos (by simp only [List.length_cons]; omega)]
          simp only [e, List.getElem_cons_succ, List.take_succ_cons]
          split
          · rfl
          · simp only [Option.map_some, valS]
            congr 2
            omega
        · rw [dif_neg hlt, dif_neg (by simp only [List.length_cons]; omega)]
          rfl
theorem ref01_Read_l0 (l : List Int) (hl : l.length < 9223372036854775807) : ∀ (d i : Nat) (r : Int × Int × Int), i + d = l.length → Ev (fun k => millhandref01_Read.j1 k l ((stopAt i (l.drop i) : Nat) : Int)) r → Ev (fun k => millhandref01_Read.l0 k l (i : Int)) r
  | 0, i, r, h, hr => by
    rw [List.drop_of_length_le (by omega)] at hr
    exact Ev.step (fun _ => millhandref01_Read.l0.eq_2 ..) (ev_neg (by omega) hr)
  | d + 1, i, r, h, hr => by
    have hlt : i < l.length := by omega
    rw [List.drop_eq_getElem_cons hlt, stopAt] at hr
    refine Ev.step (fun _ => millhandref01_Read.l0.eq_2 ..) (ev_pos (by omega) ?_)
    by_cases h10 : i < 10
    · refine ev_pos (by omega) (ev_pos (by omega) ?_)
      rw [rd_nat l i hlt]
      by_cases h128 : 128 ≤ l[i]
      · rw [if_pos ⟨h10, h128⟩] at hr
        refine ev_pos (by omega) ?_
        rw [w64 (by omega) (by omega)]
        exact ref01_Read_l0 l hl d (i + 1) r (by omega) hr
      · rw [if_neg (by omega)] at hr
        exact ev_neg (by omega) hr
    · rw [if_neg (by omega)] at hr
      exact ev_neg (by omega) hr
/-- The number of bytes from place j on stays below what is left of 64 bits. -/
theorem valS_lt : ∀ (p : List Int) (e : Nat), p.length ≤ e + 1 → (∀ h : p.length = e + 1, p[e] % 128 ≤ 1) → valS p < 2 * 128 ^ e
  | [], e, _, _ => by
    have : 0 < 128 ^ e := Nat.pow_pos (by decide)
    simp only [valS]
    omega
  | x :: t, 0, h, h9 => by
    have h1 := h9 (by simp only [List.length_cons] at h ⊢; omega)
    have ht : t = [] := List.eq_nil_of_length_eq_zero (by simp only [List.length_cons] at h; omega)
    subst ht
    simp only [List.getElem_cons_zero] at h1
    simp only [valS]
    omega
  | x :: t, e + 1, h, h9 => by
    have ih := valS_lt t e (by simp only [List.length_cons] at h; omega) (fun he => by
      have := h9 (by simp only [List.length_cons]; omega)
      simpa only [List.getElem_cons_succ] using this)
    simp only [valS]
    rw [Nat.pow_succ]
    omega
theorem ref01_Read_l1 (l : List Int) (s : Nat) (hs : s < l.length) (hs9 : s ≤ 9) (h9 : s = 9 → l[s] % 128 ≤ 1) (hb : ∀ x ∈ l, 0 ≤ x ∧ x ≤ 255) : ∀ (j : Nat), j ≤ s + 1 → Ev (fun k => millhandref01_Read.l1 k l (s : Int) ((valS ((l.take (s + 1)).drop j) : Nat) : Int) ((j : Int) - 1)) (((valS (l.take (s + 1)) : Nat) : Int), ((s + 1 : Nat) : Int), 0)
  | 0, hj => by
    refine Ev.step (fun _ => millhandref01_Read.l1.eq_2 ..) (ev_neg (by omega) (ev_some ?_))
    rw [w64 (by omega) (by omega)]
    simp
  | j + 1, hj => by
    have hlt : j < l.length := by omega
    have hlt2 : j < (l.take (s + 1)).length := by rw [List.length_take]; omega
    have hx := hb _ (List.getElem_mem hlt)
    refine Ev.step (fun _ => millhandref01_Read.l1.eq_2 ..) (ev_pos (by omega) (ev_pos (by omega) (ev_pos (by omega) ?_)))
    have hv : valS ((l.take (s + 1)).drop j) < 2 * 128 ^ (9 - j) := valS_lt _ _ (by rw [List.length_drop, List.length_take]; omega) (fun he => by
      rw [List.length_drop, List.length_take] at he
      have hs9' : s = 9 := by omega
      have : ((l.take (s + 1)).drop j)[9 - j]'(by rw [List.length_drop, List.length_take]; omega) = l[s] := by
        rw [List.getElem_drop, List.getElem_take]
        congr 1
        omega
      rw [this]
      exact h9 hs9')
    have hb2 : 2 * 128 ^ (9 - j) ≤ 18446744073709551616 := by
      have h1 : (128 : Nat) ^ (9 - j) ≤ 128 ^ 9 := Nat.pow_le_pow_right (by decide) (by omega)
      have e : (128 : Nat) ^ 9 = 9223372036854775808 := by decide
      omega
    have e1 : valS ((l.take (s + 1)).drop j) = (l[j] % 128).toNat + 128 * valS ((l.take (s + 1)).drop (j + 1)) := by
      rw [List.drop_eq_getElem_cons hlt2, valS, List.getElem_take]
    have e2 : ((j + 1 : Nat) : Int) - 1 = (j : Int) := by omega
    have a1 : IntKind.u64.wrap (((valS ((l.take (s + 1)).drop (j + 1)) : Nat) : Int) * 128) = ((valS ((l.take (s + 1)).drop (j + 1)) : Nat) : Int) * 128 := u64w_in (by omega) (by omega)
    have a2 : IntKind.u64.wrap (l[j] % 128) = l[j] % 128 := u64w_in (by omega) (by omega)
    rw [e2, rd_nat l j hlt, Int.tmod_eq_emod_of_nonneg hx.1, a1, a2, u64w_in (by omega) (by omega), w64 (by omega) (by omega)]
    have ih := ref01_Read_l1 l s hs hs9 h9 hb j (by omega)
    rw [e1] at ih
    have e3 : ((valS ((l.take (s + 1)).drop (j + 1)) : Nat) : Int) * 128 + l[j] % 128 = (((l[j] % 128).toNat + 128 * valS ((l.take (s + 1)).drop (j + 1)) : Nat) : Int) := by omega
    rw [e3]
    exact ih
theorem ref01_Read_ev (l : List Int) (hl : l.length < 9223372036854775807) (hb : ∀ x ∈ l, 0 ≤ x ∧ x ≤ 255) : Ev (fun k => millhandref01_Read.f k l) (readS l) := by
  unfold millhandref01_Read.f
  refine ref01_Read_l0 l hl l.length 0 _ (by omega) ?_
  rw [List.drop_zero]
  have hg := stopAt_ge l 0
  have hrd := rd1_stop l 0 (by omega) hb
  simp only [Nat.sub_zero] at hrd
  have bad : ∀ (r : Int × Int × Int), r = (0, 0, 8) → Ev (fun k => millhandref01_Read.j2 k l ((stopAt 0 l : Nat) : Int) true) r := fun r hr => Ev.step (fun _ => millhandref01_Read.j2.eq_2 ..) (ev_pos rfl (ev_some hr.symm))
  refine Ev.step (fun _ => millhandref01_Read.j1.eq_2 ..) ?_
  by_cases h1 : stopAt 0 l < l.length
  · rw [dif_pos h1] at hrd
    refine ev_neg (by omega) ?_
    by_cases h10 : 10 ≤ stopAt 0 l
    · rw [if_pos (by omega)] at hrd
      refine ev_pos (by omega) (bad _ ?_)
      unfold readS; rw [hrd]
    · refine ev_neg (by omega) ?_
      have hr := rd_nat l (stopAt 0 l) h1
      have good : ¬ (10 ≤ stopAt 0 l ∨ (stopAt 0 l = 9 ∧ 1 < l[stopAt 0 l]) ∨ (0 < stopAt 0 l ∧ l[stopAt 0 l] = 0)) → Ev (fun k => millhandref01_Read.j2 k l ((stopAt 0 l : Nat) : Int) false) (readS l) := by
        intro hn
        rw [if_neg hn] at hrd
        refine Ev.step (fun _ => millhandref01_Read.j2.eq_2 ..) (ev_neg (by simp) ?_)
        have hx := hb _ (List.getElem_mem h1)
        have := ref01_Read_l1 l (stopAt 0 l) h1 (by omega) (fun h => by
          have : ¬ 1 < l[stopAt 0 l] := fun h' => hn (.inr (.inl ⟨h, h'⟩))
          omega) hb (stopAt 0 l + 1) (Nat.le_refl _)
        rw [List.drop_of_length_le (by rw [List.length_take]; omega)] at this
        have e : ((stopAt 0 l + 1 : Nat) : Int) - 1 = ((stopAt 0 l : Nat) : Int) := by omega
        rw [e] at this
        refine ev_eq this ?_
        unfold readS; rw [hrd]
      have tail : (¬ (stopAt 0 l = 9 ∧ 1 < l[stopAt 0 l])) → Ev (fun n => if ((stopAt 0 l : Nat) : Int) > 0 then (if 0 ≤ ((stopAt 0 l : Nat) : Int) then (if ((stopAt 0 l : Nat) : Int) < (l.length : Int) then millhandref01_Read.j2 n l ((stopAt 0 l : Nat) : Int) ((rd l ((stopAt 0 l : Nat) : Int)) == 0) else none) else none) else millhandref01_Read.j2 n l ((stopAt 0 l : Nat) : Int) false) (readS l) := by
        intro h9
        by_cases h0 : 0 < stopAt 0 l
        · refine ev_pos (by omega) (ev_pos (by omega) (ev_pos (by omega) ?_))
          rw [hr]
          by_cases hz : l[stopAt 0 l] = 0
          · rw [beq_iff_eq.2 hz]
            rw [if_pos (by omega)] at hrd
            refine bad _ ?_
            unfold readS; rw [hrd]
          · rw [beq_eq_false_iff_ne.2 hz]
            exact good (by omega)
        · exact ev_neg (by omega) (good (by omega))
      by_cases h9 : stopAt 0 l = 9
      · have hr9 : rd l 9 = l[stopAt 0 l] := by rw [← hr, h9]; rfl
        refine ev_pos (by omega) (ev_pos (by omega) ?_)
        rw [hr9]
        by_cases hb1 : 1 < l[stopAt 0 l]
        · rw [if_pos (by omega)] at hrd
          refine ev_pos hb1 (bad _ ?_)
          unfold readS; rw [hrd]
        · exact ev_neg hb1 (tail (by omega))
      · exact ev_neg (by omega) (tail (by omega))
  · rw [dif_neg h1] at hrd
    refine ev_pos (by omega) (bad _ ?_)
    unfold readS; rw [hrd]
theorem ref01_Cut_ev (l : List Int) (hl : l.length ≤ 140737488351232) (hb : ∀ x ∈ l, 0 ≤ x ∧ x ≤ 255) : Ev (fun k => millhandref01_Cut.f k l) (cutS l) := by
  unfold millhandref01_Cut.f
  refine Ev.bind (ref01_Read_ev l (by omega) hb) ?_
  unfold readS cutS
  cases hr : rd1 0 l with
  | none => exact ev_neg (by decide) (Ev.now _)
  | some p =>
    obtain ⟨h1, h2, h3⟩ := rd1_only0 hb hr
    have hlen := rd1_len hr
    refine ev_pos rfl ?_
    have e0 : wrap64 ((l.length : Int) - (p.2 : Int)) = (l.length : Int) - (p.2 : Int) := w64 (by omega) (by omega)
    have e1 : IntKind.u64.wrap ((l.length : Int) - (p.2 : Int)) = (l.length : Int) - (p.2 : Int) := u64w_in (by omega) (by omega)
    simp only [e0, e1]
    by_cases h : p.2 + p.1 ≤ l.length
    · rw [if_pos h]
      refine ev_neg (by omega) ?_
      have e2 : wrap64 ((p.2 : Int) + wrap64 (p.1 : Int)) = ((p.2 + p.1 : Nat) : Int) := by
        rw [w64 (i := (p.1 : Int)) (by omega) (by omega), w64 (by omega) (by omega)]
        omega
      simp only [e2]
      refine ev_pos (by omega) (ev_pos (by omega) (ev_pos ?_ (ev_pos (by omega) (ev_pos (by omega) (ev_some ?_)))))
      · simp only [Int.toNat_natCast]
        rw [List.length_drop]; simp; omega
      · simp only [Int.toNat_natCast, List.nil_append]
    · rw [if_neg h]
      exact ev_pos (by omega) (Ev.now _)

theorem ref10_Op_eq (o : OpT) : millhandref10_Op.f o.f0 o.f1 o.f2 = some (mayS o) := by
  unfold millhandref10_Op.f mayS
  cases o.f1 <;> cases o.f2.toList <;> repeat' split
  all_goals simp_all
  all_goals omega
theorem ref10_Check_l0 (l : List OpT) (hl : l.length < 9223372036854775807) : ∀ (d i : Nat), i + d = l.length → Ev (fun k => millhandref10_Check.l0 k l (i : Int)) (if (l.drop i).all mayS then 0 else 8)
  | 0, i, h => by
    refine Ev.step (fun _ => millhandref10_Check.l0.eq_2 ..) (ev_neg (by omega) (ev_some ?_))
    rw [List.drop_of_length_le (by omega)]
    rfl
  | d + 1, i, h => by
    have hi : i < l.length := by omega
    refine Ev.step (fun _ => millhandref10_Check.l0.eq_2 ..) (ev_pos (by omega) (ev_pos (by omega) ?_))
    rw [rd_op l i hi, ref10_Op_eq, List.drop_eq_getElem_cons hi]
    simp only [Option.bind_some]
    by_cases hb : mayS l[i] = true
    · refine ev_pos hb ?_
      rw [w64 (by omega) (by omega)]
      exact ev_eq (ref10_Check_l0 l hl d (i + 1) (by omega)) (by simp only [List.all_cons, hb, Bool.true_and])
    · exact ev_neg hb (ev_some (by simp only [List.all_cons, Bool.eq_false_iff.mpr hb, Bool.false_and, Bool.false_eq_true, if_false]))
theorem ref10_Check_ev (l : List OpT) (hl : l.length < 9223372036854775807) : Ev (fun k => millhandref10_Check.f k l) (checkS l) := by
  unfold millhandref10_Check.f checkS
  by_cases h1 : l.length < 1
  · rw [if_pos (Or.inl h1)]
    refine ev_pos (by omega) (Ev.step (fun _ => millhandref10_Check.j0.eq_2 ..) (ev_pos rfl (Ev.now _)))
  · refine ev_neg (by omega) (Ev.step (fun _ => millhandref10_Check.j0.eq_2 ..) ?_)
    by_cases h2 : 64 < l.length
    · rw [if_pos (Or.inr h2)]
      exact ev_pos (decide_eq_true (by omega)) (Ev.now _)
    · rw [if_neg (by omega)]
      refine ev_neg (by simp; omega) ?_
      have := ref10_Check_l0 l hl l.length 0 (by omega)
      rwa [List.drop_zero] at this
theorem ref10_Asked_ev (s : Int) (l : List OpT) (hl : l.length < 9223372036854775807) : Ev (fun k => millhandref10_Asked.f k s l) (askedS s l) := by
  unfold millhandref10_Asked.f askedS
  exact ev_ite (fun _ => Ev.now _) (fun _ => ev_ite (fun _ => Ev.now _) (fun _ => Ev.bind (ref10_Check_ev l hl) (Ev.now _)))

/-! ### sameness -/
theorem ref10_SameOps_l0 (l : List OpT) (hl : l.length < 9223372036854775807) : ∀ (d i : Nat), i + d = l.length → Ev (fun k => millhandref10_SameOps.l0 k l l (i : Int)) true
  | 0, i, h => Ev.step (fun _ => millhandref10_SameOps.l0.eq_2 ..) (ev_neg (by omega) (Ev.now _))
  | d + 1, i, h => by
    refine Ev.step (fun _ => millhandref10_SameOps.l0.eq_2 ..) (ev_pos (by omega) (ev_pos (by omega) (ev_pos (by omega) (ev_neg (by simp) ?_))))
    rw [w64 (by omega) (by omega)]
    exact ref10_SameOps_l0 l hl d (i + 1) (by omega)
theorem ref10_SameOps_ev (l : List OpT) (hl : l.length < 9223372036854775807) : Ev (fun k => millhandref10_SameOps.f k l l) true := by
  unfold millhandref10_SameOps.f
  exact ev_pos rfl (ref10_SameOps_l0 l hl l.length 0 (by omega))

/-! ### the reference's reader -/
def cut10 : List Int → ByteArray × Bool × ByteArray × List Int × Bool
  | [] => ((⟨#[]⟩ : ByteArray), false, (⟨#[]⟩ : ByteArray), [], false)
  | x :: t => if 1 < x then ((⟨#[]⟩ : ByteArray), false, (⟨#[]⟩ : ByteArray), [], false)
    else if (cutS t).2.2 = 0 then
      (if x = 1 then ((cutS t).1, (x == 1), (⟨#[]⟩ : ByteArray), (cutS t).2.1, true)
       else ((cutS t).1, (x == 1), (cutS (cutS t).2.1).1, (cutS (cutS t).2.1).2.1, ((cutS (cutS t).2.1).2.2 == 0)))
    else ((⟨#[]⟩ : ByteArray), (x == 1), (⟨#[]⟩ : ByteArray), [], false)
theorem ref10_cut_ev (l : List Int) (hl : l.length ≤ 140737488351232) (hb : ∀ x ∈ l, 0 ≤ x ∧ x ≤ 255) : Ev (fun k => millhandref10_cut.f k l) (cut10 l) := by
  unfold millhandref10_cut.f
  cases l with
  | nil => exact ev_pos rfl (Ev.step (fun _ => millhandref10_cut.j0.eq_2 ..) (ev_pos rfl (Ev.now _)))
  | cons x t =>
    have hr : rd (x :: t) 0 = x := rfl
    have hn : ((x :: t).length : Int) = (t.length : Int) + 1 := by simp
    have hlt : t.length + 1 ≤ 140737488351232 := hl
    have hbt : ∀ y ∈ t, 0 ≤ y ∧ y ≤ 255 := fun y hy => hb y (List.mem_cons_of_mem _ hy)
    refine ev_neg (by omega) (ev_pos (by omega) (Ev.step (fun _ => millhandref10_cut.j0.eq_2 ..) ?_))
    rw [hr]
    rw [cut10]
    by_cases h1 : 1 < x
    · rw [if_pos h1]
      exact ev_pos (decide_eq_true h1) (Ev.now _)
    · rw [if_neg h1]
      refine ev_neg (by simp; omega) (ev_pos (by omega) (ev_pos (by omega) ?_))
      rw [show (x :: t).drop 1 = t from rfl]
      refine Ev.bind (ref01_Cut_ev t (by omega) hbt) ?_
      by_cases h2 : (cutS t).2.2 = 0
      · rw [if_pos h2]
        refine ev_pos h2 ?_
        by_cases h3 : x = 1
        · rw [if_pos h3]
          exact ev_pos h3 (Ev.now _)
        · rw [if_neg h3]
          have := cutS_len t
          exact ev_neg h3 (Ev.bind (ref01_Cut_ev _ (by omega) (fun y hy => hbt y (cutS_mem t y hy))) (Ev.now _))
      · rw [if_neg h2]
        exact ev_neg h2 (Ev.now _)
theorem ref10_Read_l0 (ps qs : Nat) (hp : ps ≤ 1099511627776) (hq : qs ≤ 64) : ∀ (d j : Nat) (b : List Int) (acc : List OpT), j + d = qs → acc.length = j → b.length ≤ 16384 → (∀ x ∈ b, 0 ≤ x ∧ x ≤ 255) →
    Ev (fun k => millhandref10_Read.l0 k (ps : Int) (qs : Int) b acc (j : Int)) (match opsFrom d b acc with
      | some r => if r.2.length = 0 ∧ askedS (ps : Int) r.1 = 0 then ((ps : Int), r.1, 0) else (0, [], 8)
      | none => (0, [], 8))
  | 0, j, b, acc, h, ha, hl, hb => by
    have e1 : wrap64 (qs : Int) = (qs : Int) := w64 (by omega) (by omega)
    have e2 : wrap64 (ps : Int) = (ps : Int) := w64 (by omega) (by omega)
    refine Ev.step (fun _ => millhandref10_Read.l0.eq_2 ..) (ev_neg (by omega) ?_)
    simp only [opsFrom, e2]
    by_cases h1 : b.length = 0
    · refine ev_neg (by omega) (Ev.bind (ref10_Asked_ev (ps : Int) acc (by omega)) ?_)
      by_cases h2 : askedS (ps : Int) acc = 0
      · exact ev_eq (ev_pos h2 (Ev.now _)) (if_pos ⟨h1, h2⟩).symm
      · exact ev_eq (ev_neg h2 (Ev.now _)) (if_neg (fun h => h2 h.2)).symm
    · rw [if_neg (fun h => h1 h.1)]
      exact ev_pos (by omega) (Ev.now _)
  | d + 1, j, b, acc, h, ha, hl, hb => by
    have e1 : wrap64 (qs : Int) = (qs : Int) := w64 (by omega) (by omega)
    have e3 : wrap64 ((j : Int) + 1) = ((j + 1 : Nat) : Int) := by rw [w64 (by omega) (by omega)]; omega
    refine Ev.step (fun _ => millhandref10_Read.l0.eq_2 ..) (ev_pos (by omega) (Ev.bind (ref10_cut_ev b (by omega) hb) ?_))
    cases b with
    | nil => exact ev_neg (by decide) (Ev.now _)
    | cons x t =>
      have hlt : t.length + 1 ≤ 16384 := hl
      have hbt : ∀ y ∈ t, 0 ≤ y ∧ y ≤ 255 := fun y hy => hb y (List.mem_cons_of_mem _ hy)
      have hbc : ∀ y ∈ (cutS t).2.1, 0 ≤ y ∧ y ≤ 255 := fun y hy => hbt y (cutS_mem t y hy)
      have hcl := cutS_len t
      have hcl2 := cutS_len (cutS t).2.1
      by_cases h1 : 1 < x
      · have hc : cut10 (x :: t) = ((⟨#[]⟩ : ByteArray), false, (⟨#[]⟩ : ByteArray), [], false) := by rw [cut10, if_pos h1]
        have ho : opsFrom (d + 1) (x :: t) acc = none := by simp only [opsFrom]; rw [if_pos h1]
        rw [ho]
        simp only [hc]
        exact ev_neg (by decide) (Ev.now _)
      · by_cases h2 : (cutS t).2.2 = 0
        · by_cases h3 : x = 1
          · have hc : cut10 (x :: t) = ((cutS t).1, true, (⟨#[]⟩ : ByteArray), (cutS t).2.1, true) := by rw [cut10, if_neg h1, if_pos h2, if_pos h3, show (x == 1) = true from beq_iff_eq.mpr h3]
            have ho : opsFrom (d + 1) (x :: t) acc = opsFrom d (cutS t).2.1 (acc ++ [⟨(cutS t).1, true, ⟨#[]⟩⟩]) := by simp only [opsFrom]; rw [if_neg h1, if_pos h2, if_pos h3]
            rw [ho]
            simp only [hc, e3]
            exact ev_pos trivial (ev_pos (by omega) (ref10_Read_l0 ps qs hp hq d (j + 1) _ _ (by omega) (by rw [List.length_append, ha]; rfl) (by omega) hbc))
          · by_cases h4 : (cutS (cutS t).2.1).2.2 = 0
            · have hc : cut10 (x :: t) = ((cutS t).1, false, (cutS (cutS t).2.1).1, (cutS (cutS t).2.1).2.1, true) := by rw [cut10, if_neg h1, if_pos h2, if_neg h3, show (x == 1) = false from beq_eq_false_iff_ne.mpr h3, show ((cutS (cutS t).2.1).2.2 == 0) = true from beq_iff_eq.mpr h4]
              have ho : opsFrom (d + 1) (x :: t) acc = opsFrom d (cutS (cutS t).2.1).2.1 (acc ++ [⟨(cutS t).1, false, (cutS (cutS t).2.1).1⟩]) := by simp only [opsFrom]; rw [if_neg h1, if_pos h2, if_neg h3, if_pos h4]
              rw [ho]
              simp only [hc, e3]
              exact ev_pos trivial (ev_pos (by omega) (ref10_Read_l0 ps qs hp hq d (j + 1) _ _ (by omega) (by rw [List.length_append, ha]; rfl) (by omega) (fun y hy => hbc y (cutS_mem _ y hy))))
            · have hc : cut10 (x :: t) = ((cutS t).1, false, (cutS (cutS t).2.1).1, (cutS (cutS t).2.1).2.1, false) := by rw [cut10, if_neg h1, if_pos h2, if_neg h3, show (x == 1) = false from beq_eq_false_iff_ne.mpr h3, show ((cutS (cutS t).2.1).2.2 == 0) = false from beq_eq_false_iff_ne.mpr h4]
              have ho : opsFrom (d + 1) (x :: t) acc = none := by simp only [opsFrom]; rw [if_neg h1, if_pos h2, if_neg h3, if_neg h4]
              rw [ho]
              simp only [hc]
              exact ev_neg (by decide) (Ev.now _)
        · have hc : cut10 (x :: t) = ((⟨#[]⟩ : ByteArray), (x == 1), (⟨#[]⟩ : ByteArray), [], false) := by rw [cut10, if_neg h1, if_neg h2]
          have ho : opsFrom (d + 1) (x :: t) acc = none := by simp only [opsFrom]; rw [if_neg h1, if_neg h2]
          rw [ho]
          simp only [hc]
          exact ev_neg (by decide) (Ev.now _)
theorem ref10_Read_ev (l : List Int) (hl : l.length ≤ 20000) (hb : ∀ x ∈ l, 0 ≤ x ∧ x ≤ 255) : Ev (fun k => millhandref10_Read.f k l) (readBatch l) := by
  unfold millhandref10_Read.f readBatch
  by_cases hbig : l.length > 16384
  · rw [if_pos hbig]
    exact ev_pos (by omega) (Ev.now _)
  · rw [if_neg hbig]
    refine ev_neg (by omega) (Ev.bind (ref01_Read_ev l (by omega) hb) ?_)
    unfold readS
    cases hp : rd1 0 l with
    | none => exact ev_neg (by decide) (Ev.step (fun _ => millhandref10_Read.j0.eq_2 ..) (ev_pos rfl (Ev.now _)))
    | some p =>
      have hpl := rd1_len hp
      have hbd : ∀ y ∈ l.drop p.2, 0 ≤ y ∧ y ≤ 255 := fun y hy => hb y (List.mem_of_mem_drop hy)
      dsimp only
      refine ev_pos rfl (Ev.step (fun _ => millhandref10_Read.j0.eq_2 ..) ?_)
      by_cases h1 : p.1 > 1099511627776
      · rw [if_pos h1]
        exact ev_pos (decide_eq_true (by omega)) (Ev.now _)
      · rw [if_neg h1]
        refine ev_neg (by simp; omega) (ev_pos (by omega) (ev_pos (by omega) ?_))
        rw [Int.toNat_natCast]
        refine Ev.bind (ref01_Read_ev (l.drop p.2) (by rw [List.length_drop]; omega) hbd) ?_
        unfold readS
        cases hq : rd1 0 (l.drop p.2) with
        | none => exact ev_neg (by decide) (Ev.step (fun _ => millhandref10_Read.j1.eq_2 ..) (ev_pos rfl (Ev.now _)))
        | some q =>
          have hql := rd1_len hq
          rw [List.length_drop] at hql
          dsimp only
          refine ev_pos rfl (Ev.step (fun _ => millhandref10_Read.j1.eq_2 ..) ?_)
          by_cases h2 : q.1 > 64
          · rw [if_pos h2]
            exact ev_pos (decide_eq_true (by omega)) (Ev.now _)
          · rw [if_neg h2]
            have e : wrap64 ((p.2 : Int) + (q.2 : Int)) = ((p.2 + q.2 : Nat) : Int) := by rw [w64 (by omega) (by omega)]; omega
            rw [e]
            refine ev_neg (by simp; omega) (ev_pos (by omega) (ev_pos (by omega) ?_))
            rw [Int.toNat_natCast, ← List.drop_drop]
            exact ref10_Read_l0 p.1 q.1 (by omega) (by omega) q.1 0 _ [] (by omega) rfl (by rw [List.length_drop, List.length_drop]; omega) (fun y hy => hbd y (List.mem_of_mem_drop hy))
theorem readOps_count {s m : Nat} {b : List Int} : (readOps s m b).2.1.length ≤ 64 := by
  unfold readOps
  split
  · split
    · rename_i h
      exact (asked_ok h.2).2.2.2.1
    · simp
  · simp
theorem readBatch_count (l : List Int) : (readBatch l).2.1.length ≤ 64 := by
  unfold readBatch
  split
  · simp
  · split
    · simp
    · split
      · simp
      · split
        · simp
        · split
          · simp
          · exact readOps_count
theorem BatchReads_ev (l : List Int) (hb : ∀ x ∈ l, 0 ≤ x ∧ x ≤ 255) : Ev (fun k => millhandlaw10_BatchReads.f k l) true := by
  unfold millhandlaw10_BatchReads.f
  by_cases hl : (l.length : Int) > 20000
  · exact ev_pos hl (Ev.now _)
  · refine ev_neg hl (ev_pos (by simp; omega) ?_)
    simp only [Option.bind_some, List.nil_append]
    have hf : batch_Read.f l = some (readBatch l) := if_pos ⟨hb, by omega⟩
    rw [hf]
    simp only [Option.bind_some]
    refine Ev.bind (ref10_Read_ev l (by omega) hb) (ev_pos rfl ?_)
    have := readBatch_count l
    exact Ev.bind (ref10_SameOps_ev (readBatch l).2.1 (by omega)) (ev_pos rfl (ev_pos rfl (ev_some (by simp))))
theorem BatchReads_walk (w : World) (A0 : Option Addr) (c0 : Nat) (l0 : List Int) (r0 : Kd.C (Kd.int .u8) w A0 l0.length l0) (q0 : l0.length ≤ c0) (g0_ : (l0.length * 1 ≤ 140737488351232 ∧ l0.length ≤ 9223372036854775807 ∧ ∀ y0 ∈ l0, (Lit.int .u8 y0).wf = true)) :
    Calls Try.prog 4 #[.slice A0 l0.length c0] w fun e w' => e = .returned (.bool true) ∧ Below w.heap.size w w' := by
  obtain ⟨k, h⟩ := (BatchReads_ev l0 (fun x hx => wfu8.mp (g0_.2.2 x hx))).rounds
  exact millhandlaw10_BatchReads.calls k A0 c0 l0 true w r0 q0 h
end Go.Proofs.Ytonbfefceblfgaa.R

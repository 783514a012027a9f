/- What bytes are read as by the document, and the law. -/
import Derived.Test.YtoplhlacdjlidaaRx24
import Derived.Test.YtoplhlacdjlidaaRx28
import Derived.Test.YtoplhlacdjlidaaRx29
import Derived.Test.YtoplhlacdjlidaaRx30
import Derived.Test.YtoplhlacdjlidaaRx31
import Derived.Test.YtoplhlacdjlidaaRDK
namespace Go.Proofs.Ytoplhlacdjlidaa.R
open Go.RowKit Go.Proofs.YtoplhlacdjlidaaW.PrintWords Go.Proofs.YtoplhlacdjlidaaW.PrintLast Go.Proofs.YtoplhlacdjlidaaW.PrintMore Go.Proofs.Ytoplhlacdjlidaa.Plain Go.Proofs.Ytoplhlacdjlidaa.Opens
set_option linter.unusedVariables false
set_option linter.unusedSimpArgs false

/-- Where a number's last byte stands, from place i on. -/
def stopAt : Nat → List Int → Nat
  | i, [] => i
  | i, x :: t => if i < 10 ∧ 128 ≤ x then stopAt (i + 1) t else i
/-- The number that some bytes make. -/
def valS : List Int → Nat
  | [] => 0
  | x :: t => (x % 128).toNat + 128 * valS t
theorem stopAt_ge : ∀ (t : List Int) (i : Nat), i ≤ stopAt i t ∧ stopAt i t ≤ i + t.length
  | [], i => by simp [stopAt]
  | x :: t, i => by
    unfold stopAt
    have := stopAt_ge t (i + 1)
    simp only [List.length_cons]
    split <;> omega
/-- Reading, by where it stops. -/
theorem rd1_stop : ∀ (t : List Int) (i : Nat), i ≤ 9 → (∀ x ∈ t, 0 ≤ x ∧ x ≤ 255) →
    rd1 i t = if h : stopAt i t - i < t.length then (if 10 ≤ stopAt i t ∨ (stopAt i t = 9 ∧ 1 < t[stopAt i t - i]) ∨ (0 < stopAt i t ∧ t[stopAt i t - i] = 0) then none else some (valS (t.take (stopAt i t - i + 1)), stopAt i t - i + 1)) else none
  | [], i, hi, hb => by simp [rd1]
  | x :: t, i, hi, hb => by
    have hx := hb x (by simp)
    have hg := stopAt_ge t (i + 1)
    rw [rd1, stopAt]
    by_cases h128 : x < 128
    · rw [if_neg (show ¬ (i < 10 ∧ 128 ≤ x) by omega), dif_pos (by simp)]
      simp only [Nat.sub_self, List.getElem_cons_zero, Nat.zero_add, List.take_succ_cons, List.take_zero]
      by_cases h9 : i = 9 ∧ 1 < x
      · rw [if_pos h9, if_pos (by omega)]
      · rw [if_neg h9, if_pos h128]
        by_cases h0 : x = 0 ∧ 0 < i
        · rw [if_pos h0, if_pos (by omega)]
        · rw [if_neg h0, if_neg (by omega)]
          simp only [valS]
          congr 2
          omega
    · rw [if_pos (show i < 10 ∧ 128 ≤ x by omega)]
      by_cases h9 : i = 9
      · rw [if_pos (by omega)]
        subst h9
        split
        · rw [if_pos (by omega)]
        · rfl
      · rw [if_neg (by omega), if_neg h128, rd1_stop t (i + 1) (by omega) (fun y hy => hb y (List.mem_cons_of_mem _ hy))]
        by_cases hlt : stopAt (i + 1) t - (i + 1) < t.length
        · have e : stopAt (i + 1) t - i = (stopAt (i + 1) t - (i + 1)) + 1 := by omega
          rw [dif_pos hlt, dif_pos (by simp only [List.length_cons]; omega)]
          simp only [e, List.getElem_cons_succ, List.take_succ_cons]
          split
          · rfl
          · simp only [Option.map_some, valS]
            congr 2
            omega
        · rw [dif_neg hlt, dif_neg (by simp only [List.length_cons]; omega)]
          rfl
theorem ref01_Read_l0 (l : List Int) (hl : l.length < 9223372036854775807) : ∀ (d i : Nat) (r : Int × Int × Int), i + d = l.length → Ev (fun k => millhandref01_Read.j1 k l ((stopAt i (l.drop i) : Nat) : Int)) r → Ev (fun k => millhandref01_Read.l0 k l (i : Int)) r
  | 0, i, r, h, hr => by
    rw [List.drop_of_length_le (by omega)] at hr
    exact Ev.step (fun _ => millhandref01_Read.l0.eq_2 ..) (ev_neg (by omega) hr)
  | d + 1, i, r, h, hr => by
    have hlt : i < l.length := by omega
    rw [List.drop_eq_getElem_cons hlt, stopAt] at hr
    refine Ev.step (fun _ => millhandref01_Read.l0.eq_2 ..) (ev_pos (by omega) ?_)
    by_cases h10 : i < 10
    · refine ev_pos (by omega) (ev_pos (by omega) ?_)
      rw [rd_nat l i hlt]
      by_cases h128 : 128 ≤ l[i]
      · rw [if_pos ⟨h10, h128⟩] at hr
        refine ev_pos (by omega) ?_
        rw [w64 (by omega) (by omega)]
        exact ref01_Read_l0 l hl d (i + 1) r (by omega) hr
      · rw [if_neg (by omega)] at hr
        exact ev_neg (by omega) hr
    · rw [if_neg (by omega)] at hr
      exact ev_neg (by omega) hr
/-- The number of bytes from place j on stays below what is left of 64 bits. -/
theorem valS_lt : ∀ (p : List Int) (e : Nat), p.length ≤ e + 1 → (∀ h : p.length = e + 1, p[e] % 128 ≤ 1) → valS p < 2 * 128 ^ e
  | [], e, _, _ => by
    have : 0 < 128 ^ e := Nat.pow_pos (by decide)
    simp only [valS]
    omega
  | x :: t, 0, h, h9 => by
    have h1 := h9 (by simp only [List.length_cons] at h ⊢; omega)
    have ht : t = [] := List.eq_nil_of_length_eq_zero (by simp only [List.length_cons] at h; omega)
    subst ht
    simp only [List.getElem_cons_zero] at h1
    simp only [valS]
    omega
  | x :: t, e + 1, h, h9 => by
    have ih := valS_lt t e (by simp only [List.length_cons] at h; omega) (fun he => by
      have := h9 (by simp only [List.length_cons]; omega)
      simpa only [List.getElem_cons_succ] using this)
    simp only [valS]
    rw [Nat.pow_succ]
    omega
theorem ref01_Read_l1 (l : List Int) (s : Nat) (hs : s < l.length) (hs9 : s ≤ 9) (h9 : s = 9 → l[s] % 128 ≤ 1) (hb : ∀ x ∈ l, 0 ≤ x ∧ x ≤ 255) : ∀ (j : Nat), j ≤ s + 1 → Ev (fun k => millhandref01_Read.l1 k l (s : Int) ((valS ((l.take (s + 1)).drop j) : Nat) : Int) ((j : Int) - 1)) (((valS (l.take (s + 1)) : Nat) : Int), ((s + 1 : Nat) : Int), 0)
  | 0, hj => by
    refine Ev.step (fun _ => millhandref01_Read.l1.eq_2 ..) (ev_neg (by omega) (ev_some ?_))
    rw [w64 (by omega) (by omega)]
    simp
  | j + 1, hj => by
    have hlt : j < l.length := by omega
    have hlt2 : j < (l.take (s + 1)).length := by rw [List.length_take]; omega
    have hx := hb _ (List.getElem_mem hlt)
    refine Ev.step (fun _ => millhandref01_Read.l1.eq_2 ..) (ev_pos (by omega) (ev_pos (by omega) (ev_pos (by omega) ?_)))
    have hv : valS ((l.take (s + 1)).drop j) < 2 * 128 ^ (9 - j) := valS_lt _ _ (by rw [List.length_drop, List.length_take]; omega) (fun he => by
      rw [List.length_drop, List.length_take] at he
      have hs9' : s = 9 := by omega
      have : ((l.take (s + 1)).drop j)[9 - j]'(by rw [List.length_drop, List.length_take]; omega) = l[s] := by
        rw [List.getElem_drop, List.getElem_take]
        congr 1
        omega
      rw [this]
      exact h9 hs9')
    have hb2 : 2 * 128 ^ (9 - j) ≤ 18446744073709551616 := by
      have h1 : (128 : Nat) ^ (9 - j) ≤ 128 ^ 9 := Nat.pow_le_pow_right (by decide) (by omega)
      have e : (128 : Nat) ^ 9 = 9223372036854775808 := by decide
      omega
    have e1 : valS ((l.take (s + 1)).drop j) = (l[j] % 128).toNat + 128 * valS ((l.take (s + 1)).drop (j + 1)) := by
      rw [List.drop_eq_getElem_cons hlt2, valS, List.getElem_take]
    have e2 : ((j + 1 : Nat) : Int) - 1 = (j : Int) := by omega
    have a1 : IntKind.u64.wrap (((valS ((l.take (s + 1)).drop (j + 1)) : Nat) : Int) * 128) = ((valS ((l.take (s + 1)).drop (j + 1)) : Nat) : Int) * 128 := u64w_in (by omega) (by omega)
    have a2 : IntKind.u64.wrap (l[j] % 128) = l[j] % 128 := u64w_in (by omega) (by omega)
    rw [e2, rd_nat l j hlt, Int.tmod_eq_emod_of_nonneg hx.1, a1, a2, u64w_in (by omega) (by omega), w64 (by omega) (by omega)]
    have ih := ref01_Read_l1 l s hs hs9 h9 hb j (by omega)
    rw [e1] at ih
    have e3 : ((valS ((l.take (s + 1)).drop (j + 1)) : Nat) : Int) * 128 + l[j] % 128 = (((l[j] % 128).toNat + 128 * valS ((l.take (s + 1)).drop (j + 1)) : Nat) : Int) := by omega
    rw [e3]
    exact ih
theorem ref01_Read_ev (l : List Int) (hl : l.length < 9223372036854775807) (hb : ∀ x ∈ l, 0 ≤ x ∧ x ≤ 255) : Ev (fun k => millhandref01_Read.f k l) (readS l) := by
  unfold millhandref01_Read.f
  refine ref01_Read_l0 l hl l.length 0 _ (by omega) ?_
  rw [List.drop_zero]
  have hg := stopAt_ge l 0
  have hrd := rd1_stop l 0 (by omega) hb
  simp only [Nat.sub_zero] at hrd
  have bad : ∀ (r : Int × Int × Int), r = (0, 0, 8) → Ev (fun k => millhandref01_Read.j2 k l ((stopAt 0 l : Nat) : Int) true) r := fun r hr => Ev.step (fun _ => millhandref01_Read.j2.eq_2 ..) (ev_pos rfl (ev_some hr.symm))
  refine Ev.step (fun _ => millhandref01_Read.j1.eq_2 ..) ?_
  by_cases h1 : stopAt 0 l < l.length
  · rw [dif_pos h1] at hrd
    refine ev_neg (by omega) ?_
    by_cases h10 : 10 ≤ stopAt 0 l
    · rw [if_pos (by omega)] at hrd
      refine ev_pos (by omega) (bad _ ?_)
      unfold readS; rw [hrd]
    · refine ev_neg (by omega) ?_
      have hr := rd_nat l (stopAt 0 l) h1
      have good : ¬ (10 ≤ stopAt 0 l ∨ (stopAt 0 l = 9 ∧ 1 < l[stopAt 0 l]) ∨ (0 < stopAt 0 l ∧ l[stopAt 0 l] = 0)) → Ev (fun k => millhandref01_Read.j2 k l ((stopAt 0 l : Nat) : Int) false) (readS l) := by
        intro hn
        rw [if_neg hn] at hrd
        refine Ev.step (fun _ => millhandref01_Read.j2.eq_2 ..) (ev_neg (by simp) ?_)
        have hx := hb _ (List.getElem_mem h1)
        have := ref01_Read_l1 l (stopAt 0 l) h1 (by omega) (fun h => by
          have : ¬ 1 < l[stopAt 0 l] := fun h' => hn (.inr (.inl ⟨h, h'⟩))
          omega) hb (stopAt 0 l + 1) (Nat.le_refl _)
        rw [List.drop_of_length_le (by rw [List.length_take]; omega)] at this
        have e : ((stopAt 0 l + 1 : Nat) : Int) - 1 = ((stopAt 0 l : Nat) : Int) := by omega
        rw [e] at this
        refine ev_eq this ?_
        unfold readS; rw [hrd]
      have tail : (¬ (stopAt 0 l = 9 ∧ 1 < l[stopAt 0 l])) → Ev (fun n => if ((stopAt 0 l : Nat) : Int) > 0 then (if 0 ≤ ((stopAt 0 l : Nat) : Int) then (if ((stopAt 0 l : Nat) : Int) < (l.length : Int) then millhandref01_Read.j2 n l ((stopAt 0 l : Nat) : Int) ((rd l ((stopAt 0 l : Nat) : Int)) == 0) else none) else none) else millhandref01_Read.j2 n l ((stopAt 0 l : Nat) : Int) false) (readS l) := by
        intro h9
        by_cases h0 : 0 < stopAt 0 l
        · refine ev_pos (by omega) (ev_pos (by omega) (ev_pos (by omega) ?_))
          rw [hr]
          by_cases hz : l[stopAt 0 l] = 0
          · rw [beq_iff_eq.2 hz]
            rw [if_pos (by omega)] at hrd
            refine bad _ ?_
            unfold readS; rw [hrd]
          · rw [beq_eq_false_iff_ne.2 hz]
            exact good (by omega)
        · exact ev_neg (by omega) (good (by omega))
      by_cases h9 : stopAt 0 l = 9
      · have hr9 : rd l 9 = l[stopAt 0 l] := by rw [← hr, h9]; rfl
        refine ev_pos (by omega) (ev_pos (by omega) ?_)
        rw [hr9]
        by_cases hb1 : 1 < l[stopAt 0 l]
        · rw [if_pos (by omega)] at hrd
          refine ev_pos hb1 (bad _ ?_)
          unfold readS; rw [hrd]
        · exact ev_neg hb1 (tail (by omega))
      · exact ev_neg (by omega) (tail (by omega))
  · rw [dif_neg h1] at hrd
    refine ev_pos (by omega) (bad _ ?_)
    unfold readS; rw [hrd]
/-! ### the same bytes, read by the document -/
def numO (most : Int) (l : List Int) : Option (Int × List Int) := match rd1 0 l with
  | some p => if most < (p.1 : Int) then none else some ((p.1 : Int), l.drop p.2)
  | none => none
/-- So many numbers, each at most so great. -/
def needsO (most : Int) : Nat → List Int → List Int → Option (List Int × List Int)
  | 0, acc, l => some (acc, l)
  | n + 1, acc, l => match numO most l with
    | some r => needsO most n (acc ++ [r.1]) r.2
    | none => none
/-- A node; its needs at most m, its tries at most t. -/
def nodeO (m t : Int) (l : List Int) : Option (NodeT × List Int) := match numO 12 l with
  | none => none
  | some r => match needsO m r.1.toNat [] r.2 with
    | none => none
    | some x => match numO t x.2 with
      | none => none
      | some y => match numO 1048576 y.2 with
        | none => none
        | some z => some (⟨x.1, y.1, z.1⟩, z.2)
def nodesO (m t : Int) : Nat → List NodeT → List Int → Option (List NodeT × List Int)
  | 0, acc, l => some (acc, l)
  | n + 1, acc, l => match nodeO m t l with
    | some r => nodesO m t n (acc ++ [r.1]) r.2
    | none => none
def cutO (m t : Int) (l : List Int) : Option (List NodeT × List Int) := match numO 12 l with
  | none => none
  | some r => nodesO m t r.1.toNat [] r.2
theorem numO_bounds {most : Int} {l : List Int} {r : Int × List Int} (h : numO most l = some r) : 0 ≤ r.1 ∧ r.1 ≤ most ∧ r.2.length < l.length := by
  unfold numO at h
  split at h
  · split at h
    · cases h
    · rename_i p hp hb
      injection h with h
      subst h
      have := rd1_len hp
      dsimp only
      rw [List.length_drop]
      omega
  · cases h
theorem numD_of (most : Int) (l : List Int) (ok : Bool) : numD most l ok = match numO most l with | some r => (r.1, r.2, ok) | none => (0, [], false) := by
  unfold numD numO
  cases rd1 0 l with
  | none => rfl
  | some p =>
    dsimp only
    split <;> rfl
theorem numD_false (most : Int) (l : List Int) : (numD most l false).2.2 = false := by
  rw [numD_of]
  split <;> rfl
theorem needsD_false : ∀ (n : Nat) (acc l : List Int), (needsD n acc l false).2.2 = false
  | 0, acc, l => rfl
  | n + 1, acc, l => by
    rw [needsD, numD_false]
    exact needsD_false n _ _
theorem nodeD_false (l : List Int) : (nodeD l false).2.2 = false := by
  unfold nodeD
  rcases h1 : numD 12 l false with ⟨n, l1, o1⟩
  have e1 : o1 = false := by have := numD_false 12 l; rw [h1] at this; exact this
  subst e1
  dsimp only
  rcases h2 : needsD n.toNat [] l1 false with ⟨x, l2, o2⟩
  have e2 : o2 = false := by have := needsD_false n.toNat [] l1; rw [h2] at this; exact this
  subst e2
  dsimp only
  rcases h3 : numD 5 l2 false with ⟨t, l3, o3⟩
  have e3 : o3 = false := by have := numD_false 5 l2; rw [h3] at this; exact this
  subst e3
  exact numD_false 1048576 l3
theorem nodesD_false : ∀ (n : Nat) (acc : List NodeT) (l : List Int), (nodesD n acc l false).2.2 = false
  | 0, acc, l => rfl
  | n + 1, acc, l => by
    rw [nodesD, nodeD_false]
    exact nodesD_false n _ _
theorem needsD_of : ∀ (n : Nat) (acc l : List Int), (∀ r, needsO 12 n acc l = some r → needsD n acc l true = (r.1, r.2, true)) ∧ (needsO 12 n acc l = none → (needsD n acc l true).2.2 = false)
  | 0, acc, l => ⟨fun r h => by injection h with h; subst h; rfl, fun h => (by cases h)⟩
  | n + 1, acc, l => by
    rw [needsO, needsD, numD_of]
    cases h : numO 12 l with
    | none => exact ⟨fun r h => (by cases h), fun _ => needsD_false n _ _⟩
    | some r => exact needsD_of n (acc ++ [r.1]) r.2
theorem nodeD_of (l : List Int) : (∀ r, nodeO 12 5 l = some r → nodeD l true = (r.1, r.2, true)) ∧ (nodeO 12 5 l = none → (nodeD l true).2.2 = false) := by
  unfold nodeO nodeD
  rw [numD_of]
  cases h : numO 12 l with
  | none =>
    refine ⟨fun r h => (by cases h), fun _ => ?_⟩
    dsimp only
    rcases h2 : needsD (0 : Int).toNat [] [] false with ⟨x, l2, o2⟩
    have e2 : o2 = false := by have := needsD_false (0 : Int).toNat [] []; rw [h2] at this; exact this
    subst e2
    dsimp only
    rcases h3 : numD 5 l2 false with ⟨t, l3, o3⟩
    have e3 : o3 = false := by have := numD_false 5 l2; rw [h3] at this; exact this
    subst e3
    exact numD_false 1048576 l3
  | some a =>
    dsimp only
    obtain ⟨f1, f2⟩ := needsD_of a.1.toNat [] a.2
    cases h2 : needsO 12 a.1.toNat [] a.2 with
    | none =>
      refine ⟨fun r h => (by cases h), fun _ => ?_⟩
      rcases h3 : needsD a.1.toNat [] a.2 true with ⟨x, l2, o2⟩
      have e2 : o2 = false := by have := f2 h2; rw [h3] at this; exact this
      subst e2
      dsimp only
      rcases h4 : numD 5 l2 false with ⟨t, l3, o3⟩
      have e3 : o3 = false := by have := numD_false 5 l2; rw [h4] at this; exact this
      subst e3
      exact numD_false 1048576 l3
    | some b =>
      rw [f1 b h2]
      dsimp only
      rw [numD_of 5 b.2 true]
      cases h4 : numO 5 b.2 with
      | none => exact ⟨fun r h => (by cases h), fun _ => numD_false 1048576 []⟩
      | some c =>
        dsimp only
        rw [numD_of 1048576 c.2 true]
        cases h5 : numO 1048576 c.2 with
        | none => exact ⟨fun r h => (by cases h), fun _ => rfl⟩
        | some d => exact ⟨fun r h => by injection h with h; subst h; rfl, fun h => (by cases h)⟩
theorem nodesD_of : ∀ (n : Nat) (acc : List NodeT) (l : List Int), (∀ r, nodesO 12 5 n acc l = some r → nodesD n acc l true = (r.1, r.2, true)) ∧ (nodesO 12 5 n acc l = none → (nodesD n acc l true).2.2 = false)
  | 0, acc, l => ⟨fun r h => by injection h with h; subst h; rfl, fun h => (by cases h)⟩
  | n + 1, acc, l => by
    rw [nodesO, nodesD]
    obtain ⟨f1, f2⟩ := nodeD_of l
    cases h : nodeO 12 5 l with
    | none =>
      refine ⟨fun r h => (by cases h), fun _ => ?_⟩
      rw [f2 h]
      exact nodesD_false n _ _
    | some r =>
      rw [f1 r h]
      exact nodesD_of n (acc ++ [r.1]) r.2
theorem numO_le {m m' : Int} (hm : m ≤ m') {l : List Int} : (∀ r, numO m' l = some r → numO m l = if r.1 ≤ m then some r else none) ∧ (numO m' l = none → numO m l = none) := by
  unfold numO
  cases rd1 0 l with
  | none => exact ⟨fun r h => (by cases h), fun _ => rfl⟩
  | some p =>
    dsimp only
    by_cases h1 : m' < (p.1 : Int)
    · rw [if_pos h1, if_pos (by omega)]
      exact ⟨fun r h => (by cases h), fun _ => rfl⟩
    · rw [if_neg h1]
      refine ⟨fun r h => ?_, fun h => (by cases h)⟩
      injection h with h
      subst h
      dsimp only
      by_cases h2 : (p.1 : Int) ≤ m
      · rw [if_pos h2, if_neg (by omega)]
      · rw [if_neg h2, if_pos (by omega)]
theorem needsO_le {m m' : Int} (hm : m ≤ m') : ∀ (n : Nat) (acc l : List Int), (∀ v ∈ acc, v ≤ m) → (∀ r, needsO m' n acc l = some r → needsO m n acc l = if (∀ v ∈ r.1, v ≤ m) then some r else none) ∧ (needsO m' n acc l = none → needsO m n acc l = none)
  | 0, acc, l, ha => ⟨fun r h => by injection h with h; subst h; rw [if_pos ha]; rfl, fun h => (by cases h)⟩
  | n + 1, acc, l, ha => by
    rw [needsO, needsO]
    obtain ⟨f1, f2⟩ := numO_le hm (l := l)
    cases h : numO m' l with
    | none => rw [f2 h]; exact ⟨fun r h => (by cases h), fun _ => rfl⟩
    | some a =>
      rw [f1 a h]
      by_cases h1 : a.1 ≤ m
      · rw [if_pos h1]
        exact needsO_le hm n (acc ++ [a.1]) a.2 (fun v hv => by
          rcases List.mem_append.mp hv with hv | hv
          · exact ha v hv
          · rw [List.mem_singleton.mp hv]; exact h1)
      · rw [if_neg h1]
        refine ⟨fun r hr => ?_, fun _ => rfl⟩
        have hin : ∀ (n : Nat) (acc l : List Int) (r : List Int × List Int), needsO m' n acc l = some r → ∀ v ∈ acc, v ∈ r.1 := by
          intro n
          induction n with
          | zero => intro acc l r h v hv; injection h with h; subst h; exact hv
          | succ n ih =>
            intro acc l r h v hv
            rw [needsO] at h
            split at h
            · exact ih _ _ _ h v (List.mem_append_left _ hv)
            · cases h
        have := hin n _ _ r hr a.1 (List.mem_append_right _ (List.mem_singleton.mpr rfl))
        rw [if_neg (fun h => h1 (h _ this))]
/-- What a stricter reading takes of a node. -/
def strictN (x : NodeT) : Prop := (∀ v ∈ x.f0, v ≤ 12) ∧ x.f1 ≤ 5
theorem nodeO_le (l : List Int) : (∀ r, nodeO 1048576 1048576 l = some r → (strictN r.1 → nodeO 12 5 l = some r) ∧ (¬ strictN r.1 → nodeO 12 5 l = none)) ∧ (nodeO 1048576 1048576 l = none → nodeO 12 5 l = none) := by
  unfold nodeO
  cases h : numO 12 l with
  | none => exact ⟨fun r h => (by cases h), fun _ => rfl⟩
  | some a =>
    dsimp only
    obtain ⟨f1, f2⟩ := needsO_le (m := 12) (m' := 1048576) (by decide) a.1.toNat [] a.2 (fun v hv => (by cases hv))
    cases h2 : needsO 1048576 a.1.toNat [] a.2 with
    | none => rw [f2 h2]; exact ⟨fun r h => (by cases h), fun _ => rfl⟩
    | some b =>
      rw [f1 b h2]
      dsimp only
      obtain ⟨g1, g2⟩ := numO_le (m := 5) (m' := 1048576) (by decide) (l := b.2)
      cases h3 : numO 1048576 b.2 with
      | none =>
        refine ⟨fun r h => (by cases h), fun _ => ?_⟩
        split
        · rfl
        · rename_i x hx
          split at hx
          · injection hx with hx
            subst hx
            rw [g2 h3]
          · cases hx
      | some c =>
        dsimp only
        cases h4 : numO 1048576 c.2 with
        | none =>
          refine ⟨fun r h => (by cases h), fun _ => ?_⟩
          split
          · rfl
          · rename_i x hx
            split at hx
            · injection hx with hx
              subst hx
              rw [g1 c h3]
              by_cases h5 : c.1 ≤ 5
              · rw [if_pos h5]
                dsimp only
                rw [h4]
              · rw [if_neg h5]
            · cases hx
        | some d =>
          refine ⟨fun r hr => ?_, fun h => (by cases h)⟩
          injection hr with hr
          subst hr
          constructor
          · rintro ⟨s1, s2⟩
            rw [if_pos s1]
            dsimp only
            rw [g1 c h3, if_pos s2]
            dsimp only
            rw [h4]
          · intro hs
            by_cases s1 : ∀ v ∈ b.1, v ≤ 12
            · rw [if_pos s1]
              dsimp only
              rw [g1 c h3, if_neg (fun s2 => hs ⟨s1, s2⟩)]
            · rw [if_neg s1]
theorem nodesO_in (m t : Int) : ∀ (n : Nat) (acc : List NodeT) (l : List Int) (r : List NodeT × List Int), nodesO m t n acc l = some r → ∀ x ∈ acc, x ∈ r.1
  | 0, acc, l, r, h, x, hx => by injection h with h; subst h; exact hx
  | n + 1, acc, l, r, h, x, hx => by
    rw [nodesO] at h
    split at h
    · exact nodesO_in m t n _ _ r h x (List.mem_append_left _ hx)
    · cases h
theorem nodesO_le : ∀ (n : Nat) (acc : List NodeT) (l : List Int), (∀ x ∈ acc, strictN x) → (∀ r, nodesO 1048576 1048576 n acc l = some r → ((∀ x ∈ r.1, strictN x) → nodesO 12 5 n acc l = some r) ∧ (¬ (∀ x ∈ r.1, strictN x) → nodesO 12 5 n acc l = none)) ∧ (nodesO 1048576 1048576 n acc l = none → nodesO 12 5 n acc l = none)
  | 0, acc, l, ha => ⟨fun r h => by injection h with h; subst h; exact ⟨fun _ => rfl, fun h => absurd ha h⟩, fun h => (by cases h)⟩
  | n + 1, acc, l, ha => by
    rw [nodesO, nodesO]
    obtain ⟨f1, f2⟩ := nodeO_le l
    cases h : nodeO 1048576 1048576 l with
    | none => rw [f2 h]; exact ⟨fun r h => (by cases h), fun _ => rfl⟩
    | some a =>
      obtain ⟨g1, g2⟩ := f1 a h
      by_cases hs : strictN a.1
      · rw [g1 hs]
        exact nodesO_le n (acc ++ [a.1]) a.2 (fun x hx => by
          rcases List.mem_append.mp hx with hx | hx
          · exact ha x hx
          · rw [List.mem_singleton.mp hx]; exact hs)
      · rw [g2 hs]
        refine ⟨fun r hr => ⟨fun hall => ?_, fun _ => rfl⟩, fun _ => rfl⟩
        exact absurd (hall _ (nodesO_in _ _ n _ _ r hr a.1 (List.mem_append_right _ (List.mem_singleton.mpr rfl)))) hs
/-- The spec of bytes, as the document reads it. -/
def refReadS (l : List Int) : List NodeT × Int :=
  if 16384 < l.length then ([], 3)
  else match cutO 1048576 1048576 l with
    | none => ([], 8)
    | some r => if mayS r.1 = true ∧ r.2 = [] then (r.1, 0) else ([], 8)
theorem readD_ref (l : List Int) : readD l = refReadS l := by
  unfold readD refReadS cutO
  by_cases hb : 16384 < l.length
  · rw [if_pos hb, if_pos hb]
  · rw [if_neg hb, if_neg hb, numD_of]
    cases h : numO 12 l with
    | none =>
      dsimp only
      rw [if_pos (Or.inl (nodesD_false _ _ _))]
    | some a =>
      dsimp only
      obtain ⟨d1, d2⟩ := nodesD_of a.1.toNat [] a.2
      obtain ⟨f1, f2⟩ := nodesO_le a.1.toNat [] a.2 (fun x hx => (by cases hx))
      cases h2 : nodesO 1048576 1048576 a.1.toNat [] a.2 with
      | none =>
        dsimp only
        rw [if_pos (Or.inl (d2 (f2 h2)))]
      | some b =>
        dsimp only
        obtain ⟨g1, g2⟩ := f1 b h2
        by_cases hs : ∀ x ∈ b.1, strictN x
        · rw [d1 b (g1 hs)]
          dsimp only
          by_cases hm : mayS b.1 = true
          · by_cases hr : b.2 = []
            · rw [if_neg (by
                rintro (h | h | h)
                · cases h
                · rw [hr] at h; exact absurd h (Nat.lt_irrefl 0)
                · exact h ((check_zero _).mpr hm)), if_pos ⟨hm, hr⟩]
            · rw [if_pos (Or.inr (Or.inl (List.length_pos_iff.mpr hr))), if_neg (fun h => hr h.2)]
          · rw [if_pos (Or.inr (Or.inr (fun h => hm ((check_zero _).mp h)))), if_neg (fun h => hm h.1)]
        · rw [if_pos (Or.inl (d2 (g2 hs))), if_neg]
          rintro ⟨hm, _⟩
          refine hs fun x hx => ?_
          have := may_nodes hm x hx
          exact ⟨fun v hv => (this.2.1 v hv).2, this.2.2.1.2⟩
/-! ### the document's Cut -/
theorem cut_step (b : List Int) (m i n : Int) (j : Nat) (acc : List NodeT) (x : List Int) (t q : Int) (hb : ∀ x ∈ b, 0 ≤ x ∧ x ≤ 255) (hl : b.length ≤ 20000) (hn : 0 ≤ n ∧ n ≤ 12) (hj : (j : Int) < n + 2) :
    (numO 1048576 b = none → Ev (fun k => millhandref23_Cut.l1 k b m i n (j : Int) acc x t q) (acc, [], false)) ∧
    (∀ p r, numO 1048576 b = some p → Ev (fun k => if (j : Int) < wrap64 n then (if x.length < 17592186044416 then millhandref23_Cut.l1 k p.2 m i n (wrap64 ((j : Int) + 1)) acc (x ++ [wrap64 p.1]) t q else none) else (if (j : Int) = wrap64 n then millhandref23_Cut.l1 k p.2 m i n (wrap64 ((j : Int) + 1)) acc x (wrap64 p.1) q else millhandref23_Cut.l1 k p.2 m i n (wrap64 ((j : Int) + 1)) acc x t (wrap64 p.1))) r →
      Ev (fun k => millhandref23_Cut.l1 k b m i n (j : Int) acc x t q) r) := by
  have hr := ref01_Read_ev b (by omega) hb
  have hw : wrap64 (wrap64 n + 2) = n + 2 := by rw [w64 (i := n) (by omega) (by omega), w64 (by omega) (by omega)]
  have bad : Ev (fun k => millhandref23_Cut.j4 k b m i n (j : Int) 0 0 true acc x t q) (acc, [], false) := Ev.step (fun _ => millhandref23_Cut.j4.eq_2 ..) (ev_pos rfl (Ev.now _))
  unfold numO
  unfold readS at hr
  cases hp : rd1 0 b with
  | none =>
    rw [hp] at hr
    refine ⟨fun _ => Ev.step (fun _ => millhandref23_Cut.l1.eq_2 ..) (ev_pos (by rw [hw]; exact hj) (Ev.bind hr (ev_neg (by decide) bad))), fun p r h => (by cases h)⟩
  | some p =>
    rw [hp] at hr
    have hpl := rd1_len hp
    dsimp only
    by_cases hbig : 1048576 < (p.1 : Int)
    · rw [if_pos hbig]
      refine ⟨fun _ => Ev.step (fun _ => millhandref23_Cut.l1.eq_2 ..) (ev_pos (by rw [hw]; exact hj) (Ev.bind hr (ev_pos rfl ?_))), fun p r h => (by cases h)⟩
      rw [show decide (((p.1 : Int), (p.2 : Int), (0 : Int)).1 > 1048576) = true from decide_eq_true hbig]
      exact Ev.step (fun _ => millhandref23_Cut.j4.eq_2 ..) (ev_pos rfl (Ev.now _))
    · rw [if_neg hbig]
      refine ⟨fun h => (by cases h), fun p' r h hk => ?_⟩
      injection h with h
      subst h
      refine Ev.step (fun _ => millhandref23_Cut.l1.eq_2 ..) (ev_pos (by rw [hw]; exact hj) (Ev.bind hr (ev_pos rfl ?_)))
      rw [show decide (((p.1 : Int), (p.2 : Int), (0 : Int)).1 > 1048576) = false from decide_eq_false hbig]
      refine Ev.step (fun _ => millhandref23_Cut.j4.eq_2 ..) (ev_neg (by decide) (ev_pos (by dsimp only; omega) (ev_pos (by dsimp only; omega) (Ev.bind (Ev.now _) ?_))))
      rw [Int.toNat_natCast]
      exact hk
def nodeTail (m : Nat) (x : List Int) (b : List Int) : Option (NodeT × List Int) := match needsO 1048576 m x b with
  | none => none
  | some y => match numO 1048576 y.2 with
    | none => none
    | some t => match numO 1048576 t.2 with
      | none => none
      | some q => some (⟨y.1, t.1, q.1⟩, q.2)
theorem numO_drop {most : Int} {l : List Int} {r : Int × List Int} (h : numO most l = some r) : ∃ d, r.2 = l.drop d := by
  unfold numO at h
  split at h
  · split at h
    · cases h
    · injection h with h; subst h; exact ⟨_, rfl⟩
  · cases h
theorem numO_fine {most : Int} {l : List Int} {r : Int × List Int} (h : numO most l = some r) (hb : ∀ x ∈ l, 0 ≤ x ∧ x ≤ 255) (hl : l.length ≤ 20000) : (∀ x ∈ r.2, 0 ≤ x ∧ x ≤ 255) ∧ r.2.length ≤ 20000 := by
  obtain ⟨d, e⟩ := numO_drop h
  rw [e]
  exact ⟨fun x hx => hb x (List.mem_of_mem_drop hx), by rw [List.length_drop]; omega⟩
theorem cut_l1 (m i : Int) (n : Nat) (hn : n ≤ 12) (acc : List NodeT) (hacc : acc.length ≤ 1000) (hi : 0 ≤ i ∧ i ≤ 1000) (r : List NodeT × List Int × Bool) : ∀ (d j : Nat) (x b : List Int), j + d = n → x.length = j → (∀ x ∈ b, 0 ≤ x ∧ x ≤ 255) → b.length ≤ 20000 →
    (match nodeTail d x b with | none => r = (acc, [], false) | some p => Ev (fun k => millhandref23_Cut.l0 k p.2 m (wrap64 (i + 1)) (acc ++ [p.1])) r) → Ev (fun k => millhandref23_Cut.l1 k b m i (n : Int) (j : Int) acc x 0 0) r
  | d + 1, j, x, b, hj, hx, hb, hl, h => by
    obtain ⟨s1, s2⟩ := cut_step b m i (n : Int) j acc x 0 0 hb hl (by omega) (by omega)
    unfold nodeTail at h
    rw [needsO] at h
    cases hp : numO 1048576 b with
    | none =>
      rw [hp] at h
      rw [show r = (acc, [], false) from h]
      exact s1 hp
    | some p =>
      rw [hp] at h
      have hpb := numO_bounds hp
      obtain ⟨f1, f2⟩ := numO_fine hp hb hl
      refine s2 p r hp (ev_pos (by rw [w64 (by omega) (by omega)]; omega) (ev_pos (by omega) ?_))
      rw [w64 (i := p.1) (by omega) (by omega), show wrap64 ((j : Int) + 1) = ((j + 1 : Nat) : Int) by rw [w64 (by omega) (by omega)]; omega]
      exact cut_l1 m i n hn acc hacc hi r d (j + 1) (x ++ [p.1]) p.2 (by omega) (by rw [List.length_append, hx]; rfl) f1 f2 h
  | 0, j, x, b, hj, hx, hb, hl, h => by
    obtain ⟨s1, s2⟩ := cut_step b m i (n : Int) j acc x 0 0 hb hl (by omega) (by omega)
    unfold nodeTail at h
    rw [needsO] at h
    dsimp only at h
    cases hp : numO 1048576 b with
    | none =>
      rw [hp] at h
      rw [show r = (acc, [], false) from h]
      exact s1 hp
    | some p =>
      rw [hp] at h
      dsimp only at h
      have hpb := numO_bounds hp
      obtain ⟨f1, f2⟩ := numO_fine hp hb hl
      refine s2 p r hp (ev_neg (by rw [w64 (by omega) (by omega)]; omega) (ev_pos (by rw [w64 (by omega) (by omega)]; omega) ?_))
      rw [w64 (i := p.1) (by omega) (by omega), show wrap64 ((j : Int) + 1) = ((j + 1 : Nat) : Int) by rw [w64 (by omega) (by omega)]; omega]
      obtain ⟨u1, u2⟩ := cut_step p.2 m i (n : Int) (j + 1) acc x p.1 0 f1 f2 (by omega) (by omega)
      cases hq : numO 1048576 p.2 with
      | none =>
        rw [hq] at h
        rw [show r = (acc, [], false) from h]
        exact u1 hq
      | some q =>
        rw [hq] at h
        dsimp only at h
        have hqb := numO_bounds hq
        refine u2 q r hq (ev_neg (by rw [w64 (by omega) (by omega)]; omega) (ev_neg (by rw [w64 (by omega) (by omega)]; omega) ?_))
        rw [w64 (i := q.1) (by omega) (by omega)]
        refine Ev.step (fun _ => millhandref23_Cut.l1.eq_2 ..) (ev_neg (by rw [w64 (i := (n : Int)) (by omega) (by omega), w64 (i := (n : Int) + 2) (by omega) (by omega), w64 (by omega) (by omega)]; omega) (ev_pos (by omega) ?_))
        exact h
/-- So many nodes, as the document reads them. -/
def refNodes : Nat → List NodeT → List Int → List NodeT × List Int × Bool
  | 0, acc, b => (acc, b, mayS acc)
  | n + 1, acc, b => match nodeO 1048576 1048576 b with
    | none => (acc, [], false)
    | some r => refNodes n (acc ++ [r.1]) r.2
theorem nodeO_tail (b : List Int) : nodeO 1048576 1048576 b = match numO 12 b with | none => none | some r => nodeTail r.1.toNat [] r.2 := rfl
theorem needsO_len (m : Int) : ∀ (n : Nat) (acc l : List Int) (r : List Int × List Int), needsO m n acc l = some r → r.1.length = acc.length + n ∧ ∀ x ∈ r.2, x ∈ l
  | 0, acc, l, r, h => by injection h with h; subst h; exact ⟨rfl, fun x hx => hx⟩
  | n + 1, acc, l, r, h => by
    rw [needsO] at h
    cases hp : numO m l with
    | none => rw [hp] at h; cases h
    | some p =>
      rw [hp] at h
      obtain ⟨h1, h2⟩ := needsO_len m n _ _ r h
      obtain ⟨d, e⟩ := numO_drop hp
      rw [List.length_append, List.length_singleton] at h1
      exact ⟨by omega, fun x hx => List.mem_of_mem_drop (e ▸ h2 x hx)⟩
theorem needsO_shorter (m : Int) : ∀ (n : Nat) (acc l : List Int) (r : List Int × List Int), needsO m n acc l = some r → r.2.length ≤ l.length
  | 0, acc, l, r, h => by injection h with h; subst h; exact Nat.le_refl _
  | n + 1, acc, l, r, h => by
    rw [needsO] at h
    cases hp : numO m l with
    | none => rw [hp] at h; cases h
    | some p =>
      rw [hp] at h
      have := needsO_shorter m n _ _ r h
      have := (numO_bounds hp).2.2
      omega
theorem nodeO_fine {b : List Int} {r : NodeT × List Int} (h : nodeO 1048576 1048576 b = some r) (hb : ∀ x ∈ b, 0 ≤ x ∧ x ≤ 255) : (∀ x ∈ r.2, 0 ≤ x ∧ x ≤ 255) ∧ r.2.length ≤ b.length ∧ r.1.f0.length ≤ 12 := by
  unfold nodeO at h
  cases h1 : numO 12 b with
  | none => rw [h1] at h; cases h
  | some p =>
    rw [h1] at h
    dsimp only at h
    cases h2 : needsO 1048576 p.1.toNat [] p.2 with
    | none => rw [h2] at h; cases h
    | some x =>
      rw [h2] at h
      dsimp only at h
      cases h3 : numO 1048576 x.2 with
      | none => rw [h3] at h; cases h
      | some y =>
        rw [h3] at h
        dsimp only at h
        cases h4 : numO 1048576 y.2 with
        | none => rw [h4] at h; cases h
        | some z =>
          rw [h4] at h
          dsimp only at h
          injection h with h
          subst h
          obtain ⟨d1, e1⟩ := numO_drop h1
          obtain ⟨d3, e3⟩ := numO_drop h3
          obtain ⟨d4, e4⟩ := numO_drop h4
          obtain ⟨l2, m2⟩ := needsO_len _ _ _ _ _ h2
          have s2 := needsO_shorter _ _ _ _ _ h2
          have b1 := numO_bounds h1
          have b3 := numO_bounds h3
          have b4 := numO_bounds h4
          dsimp only
          refine ⟨fun v hv => ?_, by omega, ?_⟩
          · rw [e4] at hv
            have hv := List.mem_of_mem_drop hv
            rw [e3] at hv
            have hv := m2 v (List.mem_of_mem_drop hv)
            rw [e1] at hv
            exact hb v (List.mem_of_mem_drop hv)
          · rw [l2, List.length_nil]
            omega
theorem cut_l0 (m : Nat) (hm : m ≤ 12) : ∀ (d i : Nat) (acc : List NodeT) (b : List Int), i + d = m → acc.length = i → (∀ x ∈ acc, x.f0.length ≤ 12) → (∀ x ∈ b, 0 ≤ x ∧ x ≤ 255) → b.length ≤ 20000 → Ev (fun k => millhandref23_Cut.l0 k b (m : Int) (i : Int) acc) (refNodes d acc b)
  | 0, i, acc, b, h, ha, hf, hb, hl => by
    refine Ev.step (fun _ => millhandref23_Cut.l0.eq_2 ..) (ev_neg (by rw [w64 (by omega) (by omega)]; omega) ?_)
    exact Ev.bind (ref_May_ev acc ⟨by omega, fun x hx => by have := hf x hx; omega⟩) (Ev.now _)
  | d + 1, i, acc, b, h, ha, hf, hb, hl => by
    have hr := ref01_Read_ev b (by omega) hb
    have bad : ∀ u v : Int, Ev (fun k => millhandref23_Cut.j2 k b (m : Int) (i : Int) u v true acc 0 0) (acc, [], false) := fun u v => Ev.step (fun _ => millhandref23_Cut.j2.eq_2 ..) (ev_pos rfl (Ev.now _))
    rw [refNodes, nodeO_tail]
    have hlt : (i : Int) < wrap64 (m : Int) := by rw [w64 (by omega) (by omega)]; omega
    unfold numO
    unfold readS at hr
    cases hp : rd1 0 b with
    | none =>
      rw [hp] at hr
      exact Ev.step (fun _ => millhandref23_Cut.l0.eq_2 ..) (ev_pos hlt (Ev.bind hr (ev_neg (by decide) (bad _ _))))
    | some p =>
      rw [hp] at hr
      have hpl := rd1_len hp
      dsimp only
      by_cases hbig : 12 < (p.1 : Int)
      · rw [if_pos hbig]
        refine Ev.step (fun _ => millhandref23_Cut.l0.eq_2 ..) (ev_pos hlt (Ev.bind hr (ev_pos rfl ?_)))
        rw [show decide (((p.1 : Int), (p.2 : Int), (0 : Int)).1 > 12) = true from decide_eq_true hbig]
        exact bad _ _
      · rw [if_neg hbig]
        dsimp only
        rw [Int.toNat_natCast]
        refine Ev.step (fun _ => millhandref23_Cut.l0.eq_2 ..) (ev_pos hlt (Ev.bind hr (ev_pos rfl ?_)))
        rw [show decide (((p.1 : Int), (p.2 : Int), (0 : Int)).1 > 12) = false from decide_eq_false hbig]
        refine Ev.step (fun _ => millhandref23_Cut.j2.eq_2 ..) (ev_neg (by decide) (ev_pos (by dsimp only; omega) (ev_pos (by dsimp only; omega) ?_)))
        rw [Int.toNat_natCast]
        have hb2 : ∀ x ∈ b.drop p.2, 0 ≤ x ∧ x ≤ 255 := fun x hx => hb x (List.mem_of_mem_drop hx)
        have hl2 : (b.drop p.2).length ≤ 20000 := by rw [List.length_drop]; omega
        refine cut_l1 (m : Int) (i : Int) p.1 (by omega) acc (by omega) (by omega) _ p.1 0 [] (b.drop p.2) (by omega) rfl hb2 hl2 ?_
        have hno : nodeO 1048576 1048576 b = nodeTail p.1 [] (b.drop p.2) := by
          rw [nodeO_tail]
          unfold numO
          rw [hp]
          dsimp only
          rw [if_neg hbig]
          dsimp only
          rw [Int.toNat_natCast]
        cases ht : nodeTail p.1 [] (b.drop p.2) with
        | none => rfl
        | some q =>
          dsimp only
          rw [show wrap64 ((i : Int) + 1) = ((i + 1 : Nat) : Int) by rw [w64 (by omega) (by omega)]; omega]
          obtain ⟨g1, g2, g3⟩ := nodeO_fine (hno.trans ht) hb
          refine cut_l0 m hm d (i + 1) (acc ++ [q.1]) q.2 (by omega) (by rw [List.length_append, ha]; rfl) (fun x hx => ?_) g1 (by omega)
          rcases List.mem_append.mp hx with hx | hx
          · exact hf x hx
          · rw [List.mem_singleton.mp hx]; exact g3
/-- What Cut tells. -/
def refCutS (b : List Int) : List NodeT × List Int × Bool := match numO 12 b with
  | none => ([], [], false)
  | some r => refNodes r.1.toNat [] r.2
theorem refCut_ev (b : List Int) (hb : ∀ x ∈ b, 0 ≤ x ∧ x ≤ 255) (hl : b.length ≤ 20000) : Ev (fun k => millhandref23_Cut.f k b) (refCutS b) := by
  have hr := ref01_Read_ev b (by omega) hb
  have bad : ∀ u v : Int, Ev (fun k => millhandref23_Cut.j0 k b u v true) ([], [], false) := fun u v => Ev.step (fun _ => millhandref23_Cut.j0.eq_2 ..) (ev_pos rfl (Ev.now _))
  unfold millhandref23_Cut.f refCutS numO
  unfold readS at hr
  cases hp : rd1 0 b with
  | none =>
    rw [hp] at hr
    exact Ev.bind hr (ev_neg (by decide) (bad _ _))
  | some p =>
    rw [hp] at hr
    have hpl := rd1_len hp
    dsimp only
    by_cases hbig : 12 < (p.1 : Int)
    · rw [if_pos hbig]
      refine Ev.bind hr (ev_pos rfl ?_)
      rw [show decide (((p.1 : Int), (p.2 : Int), (0 : Int)).1 > 12) = true from decide_eq_true hbig]
      exact bad _ _
    · rw [if_neg hbig]
      dsimp only
      rw [Int.toNat_natCast]
      refine Ev.bind hr (ev_pos rfl ?_)
      rw [show decide (((p.1 : Int), (p.2 : Int), (0 : Int)).1 > 12) = false from decide_eq_false hbig]
      refine Ev.step (fun _ => millhandref23_Cut.j0.eq_2 ..) (ev_neg (by decide) (ev_pos (by dsimp only; omega) (ev_pos (by dsimp only; omega) ?_)))
      rw [Int.toNat_natCast]
      exact cut_l0 p.1 (by omega) p.1 0 [] (b.drop p.2) (by omega) rfl (fun x hx => (by cases hx)) (fun x hx => hb x (List.mem_of_mem_drop hx)) (by rw [List.length_drop]; omega)
theorem refNodes_of : ∀ (n : Nat) (acc : List NodeT) (b : List Int), match nodesO 1048576 1048576 n acc b with | none => (refNodes n acc b).2.2 = false | some r => refNodes n acc b = (r.1, r.2, mayS r.1)
  | 0, acc, b => rfl
  | n + 1, acc, b => by
    rw [nodesO, refNodes]
    cases h : nodeO 1048576 1048576 b with
    | none => rfl
    | some r => exact refNodes_of n (acc ++ [r.1]) r.2
theorem refCutS_of (b : List Int) : match cutO 1048576 1048576 b with | none => (refCutS b).2.2 = false | some r => refCutS b = (r.1, r.2, mayS r.1) := by
  unfold refCutS cutO
  cases h : numO 12 b with
  | none => rfl
  | some p => exact refNodes_of p.1.toNat [] p.2
theorem refRead_ev (b : List Int) (hb : ∀ x ∈ b, 0 ≤ x ∧ x ≤ 255) (hl : b.length ≤ 20000) : Ev (fun k => millhandref23_Read.f k b) (refReadS b) := by
  unfold millhandref23_Read.f refReadS
  by_cases h1 : 16384 < b.length
  · rw [if_pos h1]
    exact ev_pos (by omega) (Ev.now _)
  · rw [if_neg h1]
    refine ev_neg (by omega) (Ev.bind (refCut_ev b hb hl) ?_)
    have hc := refCutS_of b
    rcases hz : refCutS b with ⟨c1, c2, c3⟩
    rw [hz] at hc
    cases h : cutO 1048576 1048576 b with
    | none =>
      rw [h] at hc
      obtain rfl : c3 = false := hc
      exact ev_neg (fun h => Bool.noConfusion h) (Ev.now _)
    | some r =>
      rw [h] at hc
      obtain ⟨e1, e23⟩ := Prod.mk.inj hc
      obtain ⟨e2, e3⟩ := Prod.mk.inj e23
      subst e1 e2 e3
      dsimp only
      cases hm : mayS r.1 with
      | false =>
        simp only [Bool.false_eq_true, false_and, if_false]
        exact Ev.now _
      | true =>
        simp only [if_true, true_and]
        by_cases hr : r.2 = []
        · rw [if_pos hr, hr]
          exact ev_neg (by simp) (Ev.now _)
        · rw [if_neg hr]
          have := List.length_pos_iff.mpr hr
          exact ev_pos (by omega) (Ev.now _)
theorem readD_fit (b : List Int) : (readD b).1.length ≤ 12 ∧ ∀ x ∈ (readD b).1, x.f0.length ≤ 12 := by
  rw [readD_ref]
  unfold refReadS
  split
  · exact ⟨Nat.zero_le _, fun x hx => (by cases hx)⟩
  · split
    · exact ⟨Nat.zero_le _, fun x hx => (by cases hx)⟩
    · split
      · rename_i r _ hm
        have := may_parts hm.1
        exact ⟨this.2.1, fun x hx => (may_nodes hm.1 x hx).1⟩
      · exact ⟨Nat.zero_le _, fun x hx => (by cases hx)⟩
theorem DagReads_ev (b : List Int) (hb : ∀ x ∈ b, 0 ≤ x ∧ x ≤ 255) : Ev (fun k => millhandlaw23_DagReads.f k b) true := by
  unfold millhandlaw23_DagReads.f
  have great : Ev (fun k => millhandlaw23_DagReads.j0 k b true) true := Ev.step (fun _ => millhandlaw23_DagReads.j0.eq_2 ..) (ev_pos rfl (Ev.now _))
  have small : b.length ≤ 17000 → Ev (fun k => millhandlaw23_DagReads.j0 k b false) true := by
    intro hl
    have hfit := readD_fit b
    refine Ev.step (fun _ => millhandlaw23_DagReads.j0.eq_2 ..) (ev_neg (by decide) (ev_pos (by rw [List.length_nil]; omega) (Ev.bind (Ev.now _) ?_)))
    rw [List.nil_append]
    refine Ev.bind (Read_f hb (by omega) rfl) (Ev.bind (refRead_ev b hb (by omega)) ?_)
    rw [← readD_ref]
    refine Ev.bind (refSame_ev (readD b).1 (readD b).1 ⟨by omega, fun x hx => by have := hfit.2 x hx; omega⟩) ?_
    rw [sameS_refl]
    exact ev_pos rfl (ev_pos rfl (ev_some (beq_self_eq_true _)))
  have both : Ev (fun k => millhandlaw23_DagReads.j0 k b (decide ((b.length : Int) > 17000))) true := by
    by_cases h : (b.length : Int) > 17000
    · rw [decide_eq_true h]; exact great
    · rw [decide_eq_false h]; exact small (by omega)
  by_cases h1 : (b.length : Int) > 3000
  · refine ev_pos h1 ?_
    by_cases h2 : (b.length : Int) ≤ 16384
    · exact ev_pos h2 great
    · exact ev_neg h2 both
  · exact ev_neg h1 both
theorem DagReads_walk (w : World) (A0 : Option Addr) (c0 : Nat) (l0 : List Int) (r0 : Kd.C (Kd.int .u8) w A0 l0.length l0) (q0 : l0.length ≤ c0) (g0_ : (l0.length * 1 ≤ 140737488351232 ∧ l0.length ≤ 9223372036854775807 ∧ ∀ y0 ∈ l0, (Lit.int .u8 y0).wf = true)) :
    Calls Try.prog 3 #[.slice A0 l0.length c0] w fun e w' => e = .returned (.bool true) ∧ Below w.heap.size w w' := by
  obtain ⟨k, h⟩ := (DagReads_ev l0 (fun y hy => wfu8.mp (g0_.2.2 y hy))).rounds
  exact millhandlaw23_DagReads.calls k A0 c0 l0 true w r0 q0 h
end Go.Proofs.Ytoplhlacdjlidaa.R

/- What the Go functions of BatchWrites come to, in plain words. -/
import Derived.Test.YtonbfefceblfgaaQx7
import Derived.Test.YtonbfefceblfgaaPlain
import Derived.Test.YtonbfefceblfgaaQOp
namespace Go.Proofs.Ytonbfefceblfgaa.Q
open Go.RowKit Go.Proofs.YtonbfefceblfgaaW.PrintWords Go.Proofs.Ytonbfefceblfgaa.Plain
set_option linter.unusedVariables false

theorem code_Small_l0 : ∀ (d n : Nat) (acc : List Int), n < 128 ^ (d + 1) → acc.length + d < 140737488355300 → Ev (fun k => code_Small.l0 k (n : Int) acc) (acc ++ smallN n)
  | d, n, acc, h, hl => by
    refine Ev.step (fun _ => code_Small.l0.eq_2 ..) ?_
    by_cases h1 : n < 128
    · refine ev_neg (by omega) (ev_pos (by omega) (ev_some ?_))
      rw [smallN_lt h1]
      congr 2
      omega
    · refine ev_pos (by omega) (ev_pos (by omega) ?_)
      cases d with
      | zero => omega
      | succ d =>
        have hd : n / 128 < 128 ^ (d + 1) := by rw [Nat.div_lt_iff_lt_mul (by decide)]; rw [Nat.pow_succ] at h; exact h
        rw [smallN_ge h1, or128 (by omega) (by omega)]
        refine ev_eq (code_Small_l0 d (n / 128) _ hd (by simp; omega)) ?_
        rw [List.append_assoc, List.singleton_append]
        congr 2
        omega
theorem code_Small_ev {n : Int} (h0 : 0 ≤ n) (h : n < 18446744073709551616) : Ev (fun k => code_Small.f k n) (smallN n.toNat) := by
  obtain ⟨m, rfl⟩ := Int.eq_ofNat_of_zero_le h0
  unfold code_Small.f
  exact code_Small_l0 9 m [] (by omega) (by simp)

theorem ref01_Small_l0 : ∀ (d n : Nat) (acc : List Int), n < 128 ^ (d + 1) → n < 18446744073709551616 → acc.length + d < 140737488355300 → Ev (fun k => millhandref01_Small.l0 k (n : Int) acc) (acc ++ smallN n)
  | d, n, acc, h, hn, hl => by
    refine Ev.step (fun _ => millhandref01_Small.l0.eq_2 ..) ?_
    by_cases h1 : n < 128
    · refine ev_neg (by omega) (ev_pos (by omega) (ev_some ?_))
      rw [smallN_lt h1]
      congr 2
      omega
    · refine ev_pos (by omega) (ev_pos (by omega) ?_)
      cases d with
      | zero => omega
      | succ d =>
        have hd : n / 128 < 128 ^ (d + 1) := by rw [Nat.div_lt_iff_lt_mul (by decide)]; rw [Nat.pow_succ] at h; exact h
        have e1 : IntKind.u64.wrap (Int.tdiv (n : Int) 128) = ((n / 128 : Nat) : Int) := by
          rw [Int.tdiv_eq_ediv_of_nonneg (by omega), u64w]
          omega
        rw [smallN_ge h1, e1, Int.tmod_eq_emod_of_nonneg (by omega)]
        refine ev_eq (ref01_Small_l0 d (n / 128) _ hd (by omega) (by simp; omega)) ?_
        rw [List.append_assoc, List.singleton_append]
        congr 2
        omega
theorem ref01_Small_ev {n : Int} (h0 : 0 ≤ n) (h : n < 18446744073709551616) : Ev (fun k => millhandref01_Small.f k n) (smallN n.toNat) := by
  obtain ⟨m, rfl⟩ := Int.eq_ofNat_of_zero_le h0
  unfold millhandref01_Small.f
  exact ref01_Small_l0 9 m [] (by omega) (by omega) (by simp)

theorem code_Text_ev {s : ByteArray} (h : s.size ≤ 140737488351232) : Ev (fun k => code_Text.f k s) (smallN s.size ++ bytesOf s) := by
  unfold code_Text.f
  rw [u64w_in (by omega) (by omega)]
  refine Ev.bind (code_Small_ev (by omega) (by omega)) ?_
  have := smallN_len10 (n := s.size) (by omega)
  exact ev_pos (by rw [Int.toNat_natCast]; omega) (Ev.now _)

theorem ref01_Text_ev {s : ByteArray} (h : s.size ≤ 140737488351232) : Ev (fun k => millhandref01_Text.f k s) (smallN s.size ++ bytesOf s) := by
  unfold millhandref01_Text.f
  rw [u64w_in (by omega) (by omega)]
  refine Ev.bind (ref01_Small_ev (by omega) (by omega)) ?_
  have := smallN_len10 (n := s.size) (by omega)
  exact ev_pos (by rw [Int.toNat_natCast]; omega) (Ev.now _)

/-! ### which batches may be -/
abbrev OpT := S49
abbrev EnT := S51
def mayS (o : OpT) : Bool := decide (1 ≤ o.f0.size) && decide (o.f0.size ≤ 64) && decide (o.f2.size ≤ 512) && (!o.f1 || o.f2.toList.isEmpty)
theorem batch_may_eq (o : OpT) : batch_may.f o.f0 o.f1 o.f2 = some (mayS o) := by
  unfold batch_may.f mayS
  cases o.f1 <;> cases o.f2.toList <;> repeat' split
  all_goals simp_all
  all_goals omega
theorem ref10_Op_eq (o : OpT) : millhandref10_Op.f o.f0 o.f1 o.f2 = some (mayS o) := by
  unfold millhandref10_Op.f mayS
  cases o.f1 <;> cases o.f2.toList <;> repeat' split
  all_goals simp_all
  all_goals omega
def checkS (l : List OpT) : Int := if l.length < 1 ∨ 64 < l.length then 4 else if l.all mayS then 0 else 8
theorem rd_op (l : List OpT) (i : Nat) (h : i < l.length) : rd_T49 l (i : Int) = l[i] := by
  simp [rd_T49, List.getD_eq_getElem?_getD, List.getElem?_eq_getElem h]
theorem batch_Check_l0 (l : List OpT) (hl : l.length < 9223372036854775807) : ∀ (d i : Nat), i + d = l.length → Ev (fun k => batch_Check.l0 k l (l.length : Int) (i : Int)) (if (l.drop i).all mayS then 0 else 8)
  | 0, i, h => by
    refine Ev.step (fun _ => batch_Check.l0.eq_2 ..) (ev_neg (by omega) (ev_some ?_))
    rw [List.drop_of_length_le (by omega)]
    rfl
  | d + 1, i, h => by
    have hi : i < l.length := by omega
    refine Ev.step (fun _ => batch_Check.l0.eq_2 ..) (ev_pos (by omega) (ev_pos (by omega) (ev_pos (by omega) ?_)))
    rw [rd_op l i hi, batch_may_eq, List.drop_eq_getElem_cons hi]
    simp only [Option.bind_some]
    by_cases hb : mayS l[i] = true
    · refine ev_pos hb ?_
      rw [w64 (by omega) (by omega)]
      exact ev_eq (batch_Check_l0 l hl d (i + 1) (by omega)) (by simp only [List.all_cons, hb, Bool.true_and])
    · exact ev_neg hb (ev_some (by simp only [List.all_cons, Bool.eq_false_iff.mpr hb, Bool.false_and, Bool.false_eq_true, if_false]))
theorem batch_Check_ev (l : List OpT) (hl : l.length < 9223372036854775807) : Ev (fun k => batch_Check.f k l) (checkS l) := by
  unfold batch_Check.f checkS
  by_cases h1 : l.length < 1
  · rw [if_pos (Or.inl h1)]
    refine ev_pos (by omega) (Ev.step (fun _ => batch_Check.j0.eq_2 ..) (ev_pos rfl (Ev.now _)))
  · refine ev_neg (by omega) (Ev.step (fun _ => batch_Check.j0.eq_2 ..) ?_)
    by_cases h2 : 64 < l.length
    · rw [if_pos (Or.inr h2)]
      exact ev_pos (decide_eq_true (by omega)) (Ev.now _)
    · rw [if_neg (by omega)]
      refine ev_neg (by simp; omega) ?_
      have := batch_Check_l0 l hl l.length 0 (by omega)
      rwa [List.drop_zero] at this
theorem ref10_Check_l0 (l : List OpT) (hl : l.length < 9223372036854775807) : ∀ (d i : Nat), i + d = l.length → Ev (fun k => millhandref10_Check.l0 k l (i : Int)) (if (l.drop i).all mayS then 0 else 8)
  | 0, i, h => by
    refine Ev.step (fun _ => millhandref10_Check.l0.eq_2 ..) (ev_neg (by omega) (ev_some ?_))
    rw [List.drop_of_length_le (by omega)]
    rfl
  | d + 1, i, h => by
    have hi : i < l.length := by omega
    refine Ev.step (fun _ => millhandref10_Check.l0.eq_2 ..) (ev_pos (by omega) (ev_pos (by omega) ?_))
    rw [rd_op l i hi, ref10_Op_eq, List.drop_eq_getElem_cons hi]
    simp only [Option.bind_some]
    by_cases hb : mayS l[i] = true
    · refine ev_pos hb ?_
      rw [w64 (by omega) (by omega)]
      exact ev_eq (ref10_Check_l0 l hl d (i + 1) (by omega)) (by simp only [List.all_cons, hb, Bool.true_and])
    · exact ev_neg hb (ev_some (by simp only [List.all_cons, Bool.eq_false_iff.mpr hb, Bool.false_and, Bool.false_eq_true, if_false]))
theorem ref10_Check_ev (l : List OpT) (hl : l.length < 9223372036854775807) : Ev (fun k => millhandref10_Check.f k l) (checkS l) := by
  unfold millhandref10_Check.f checkS
  by_cases h1 : l.length < 1
  · rw [if_pos (Or.inl h1)]
    refine ev_pos (by omega) (Ev.step (fun _ => millhandref10_Check.j0.eq_2 ..) (ev_pos rfl (Ev.now _)))
  · refine ev_neg (by omega) (Ev.step (fun _ => millhandref10_Check.j0.eq_2 ..) ?_)
    by_cases h2 : 64 < l.length
    · rw [if_pos (Or.inr h2)]
      exact ev_pos (decide_eq_true (by omega)) (Ev.now _)
    · rw [if_neg (by omega)]
      refine ev_neg (by simp; omega) ?_
      have := ref10_Check_l0 l hl l.length 0 (by omega)
      rwa [List.drop_zero] at this
def askedS (s : Int) (l : List OpT) : Int := if s < 1 then 2 else if s > 1099511627712 then 2 else checkS l
theorem batch_asked_ev (s : Int) (l : List OpT) (hl : l.length < 9223372036854775807) : Ev (fun k => batch_asked.f k s l) (askedS s l) := by
  unfold batch_asked.f askedS
  exact ev_ite (fun _ => Ev.now _) (fun _ => ev_ite (fun _ => Ev.now _) (fun _ => Ev.bind (batch_Check_ev l hl) (Ev.now _)))
theorem ref10_Asked_ev (s : Int) (l : List OpT) (hl : l.length < 9223372036854775807) : Ev (fun k => millhandref10_Asked.f k s l) (askedS s l) := by
  unfold millhandref10_Asked.f askedS
  exact ev_ite (fun _ => Ev.now _) (fun _ => ev_ite (fun _ => Ev.now _) (fun _ => Ev.bind (ref10_Check_ev l hl) (Ev.now _)))
theorem asked_ok {s : Int} {l : List OpT} (h : askedS s l = 0) : 1 ≤ s ∧ s ≤ 1099511627712 ∧ 1 ≤ l.length ∧ l.length ≤ 64 ∧ ∀ o ∈ l, mayS o = true := by
  unfold askedS checkS at h
  repeat' split at h
  all_goals first | (exfalso; omega) | skip
  rename_i h1 h2 h3 h4
  rw [List.all_eq_true] at h4
  exact ⟨by omega, by omega, by omega, by omega, h4⟩
theorem may_sizes {o : OpT} (h : mayS o = true) : 1 ≤ o.f0.size ∧ o.f0.size ≤ 64 ∧ o.f2.size ≤ 512 ∧ (o.f1 = true → o.f2.toList = []) := by
  unfold mayS at h
  simp only [Bool.and_eq_true, decide_eq_true_eq, Bool.or_eq_true, Bool.not_eq_true', List.isEmpty_iff] at h
  obtain ⟨⟨⟨h1, h2⟩, h3⟩, h4⟩ := h
  refine ⟨h1, h2, h3, fun hd => ?_⟩
  rcases h4 with h4 | h4
  · rw [hd] at h4; cases h4
  · exact h4

/-! ### a batch's bytes -/
def textS (s : ByteArray) : List Int := smallN s.size ++ bytesOf s
def opS (o : OpT) : List Int := if o.f1 then 1 :: textS o.f0 else 0 :: (textS o.f0 ++ textS o.f2)
def bodyS (l : List OpT) : List Int := l.flatMap opS
def allS (s : Int) (l : List OpT) : List Int := smallN s.toNat ++ smallN l.length ++ bodyS l
theorem textS_length {s : ByteArray} (h : s.size ≤ 1000) : (textS s).length ≤ s.size + 10 := by
  have := smallN_len10 (n := s.size) (by omega)
  unfold textS
  rw [List.length_append, bytesOf_length]
  omega
theorem opS_length {o : OpT} (h : mayS o = true) : (opS o).length ≤ 600 := by
  obtain ⟨h1, h2, h3, _⟩ := may_sizes h
  have a := textS_length (s := o.f0) (by omega)
  have b := textS_length (s := o.f2) (by omega)
  unfold opS
  split <;> simp <;> omega
def writeS (s : Int) (l : List OpT) : List Int × Int := if askedS s l = 0 then (if (allS s l).length > 16384 then ([], 3) else (allS s l, 0)) else ([], askedS s l)
theorem batch_Write_l0 (l : List OpT) (hm : ∀ o ∈ l, mayS o = true) (hl : l.length ≤ 64) : ∀ (d i : Nat) (acc : List Int), i + d = l.length → acc.length + 600 * d < 140737488355328 →
    Ev (fun k => batch_Write.l0 k acc l (l.length : Int) (i : Int)) (if (acc ++ bodyS (l.drop i)).length > 16384 then ([], 3) else (acc ++ bodyS (l.drop i), 0))
  | 0, i, acc, h, ha => by
    refine Ev.step (fun _ => batch_Write.l0.eq_2 ..) (ev_neg (by omega) ?_)
    rw [List.drop_of_length_le (by omega)]
    simp only [bodyS, List.flatMap_nil, List.append_nil]
    by_cases h2 : acc.length > 16384
    · rw [if_pos h2]; exact ev_pos (by omega) (Ev.now _)
    · rw [if_neg h2]; exact ev_neg (by omega) (Ev.now _)
  | d + 1, i, acc, h, ha => by
    have hi : i < l.length := by omega
    have hmi := hm _ (List.getElem_mem hi)
    have hol := opS_length hmi
    obtain ⟨h1, h2, h3, _⟩ := may_sizes hmi
    refine Ev.step (fun _ => batch_Write.l0.eq_2 ..) (ev_pos (by omega) (ev_pos (by omega) (ev_pos (by omega) ?_)))
    rw [rd_op l i hi, List.drop_eq_getElem_cons hi]
    have ih := batch_Write_l0 l hm hl d (i + 1) (acc ++ opS l[i]) (by omega) (by rw [List.length_append]; omega)
    have e : acc ++ bodyS (l[i] :: l.drop (i + 1)) = (acc ++ opS l[i]) ++ bodyS (l.drop (i + 1)) := by simp only [bodyS, List.flatMap_cons, List.append_assoc]
    rw [e]
    have hk := code_Text_ev (s := l[i].f0) (by omega)
    have hv := code_Text_ev (s := l[i].f2) (by omega)
    cases hd : l[i].f1 with
    | true =>
      have ho : opS l[i] = 1 :: textS l[i].f0 := by unfold opS; rw [if_pos hd]
      rw [ho] at hol ih ⊢
      simp only [List.length_cons] at hol
      refine ev_pos rfl (ev_pos (by omega) ?_)
      simp only [Option.bind_some]
      refine Ev.bind hk ?_
      refine ev_pos (by show (acc ++ [1]).length + (textS l[i].f0).length < _; simp; omega) ?_
      rw [w64 (by omega) (by omega)]
      have e2 : acc ++ [1] ++ (smallN l[i].f0.size ++ bytesOf l[i].f0) = acc ++ 1 :: textS l[i].f0 := by simp [textS]
      rw [e2]
      exact ih
    | false =>
      have ho : opS l[i] = 0 :: (textS l[i].f0 ++ textS l[i].f2) := by unfold opS; rw [if_neg (by simp [hd])]
      rw [ho] at hol ih ⊢
      simp only [List.length_cons, List.length_append] at hol
      refine ev_neg (by simp) (ev_pos (by omega) ?_)
      simp only [Option.bind_some]
      refine Ev.bind hk ?_
      refine ev_pos (by show (acc ++ [0]).length + (textS l[i].f0).length < _; simp; omega) ?_
      refine Ev.bind hv ?_
      refine ev_pos (by show ((acc ++ [0]) ++ textS l[i].f0).length + (textS l[i].f2).length < _; simp; omega) ?_
      rw [w64 (by omega) (by omega)]
      have e2 : acc ++ [0] ++ (smallN l[i].f0.size ++ bytesOf l[i].f0) ++ (smallN l[i].f2.size ++ bytesOf l[i].f2) = acc ++ 0 :: (textS l[i].f0 ++ textS l[i].f2) := by simp [textS]
      rw [e2]
      exact ih
theorem batch_Write_ev (s : Int) (l : List OpT) (hl : l.length < 9223372036854775807) : Ev (fun k => batch_Write.f k s l) (writeS s l) := by
  unfold batch_Write.f
  refine Ev.bind (batch_asked_ev s l hl) ?_
  unfold writeS
  refine ev_ite (fun ha => ?_) (fun _ => Ev.now _)
  obtain ⟨h1, h2, h3, h4, h5⟩ := asked_ok ha
  rw [u64w_in (by omega) (by omega), u64w_in (by omega) (by omega)]
  refine Ev.bind (code_Small_ev (by omega) (by omega)) (Ev.bind (code_Small_ev (by omega) (by omega)) ?_)
  have a := smallN_len10 (n := s.toNat) (by omega)
  have b := smallN_len10 (n := (l.length : Int).toNat) (by omega)
  refine ev_pos (by omega) ?_
  have := batch_Write_l0 l h5 h4 l.length 0 (smallN s.toNat ++ smallN (l.length : Int).toNat) (by omega) (by rw [List.length_append]; omega)
  rwa [List.drop_zero] at this

mutual
theorem ref10_Bytes_l0 (l : List OpT) (hm : ∀ o ∈ l, mayS o = true) (hl : l.length ≤ 64) : ∀ (d i : Nat) (acc : List Int), i + d = l.length → acc.length + 600 * d < 140737488355328 →
    Ev (fun k => millhandref10_Bytes.l0 k l acc (i : Int)) (acc ++ bodyS (l.drop i))
  | 0, i, acc, h, ha => by
    refine Ev.step (fun _ => millhandref10_Bytes.l0.eq_2 ..) (ev_neg (by omega) (ev_some ?_))
    rw [List.drop_of_length_le (by omega)]
    simp [bodyS]
  | d + 1, i, acc, h, ha => by
    have hi : i < l.length := by omega
    have hmi := hm _ (List.getElem_mem hi)
    have hol := opS_length hmi
    obtain ⟨h1, h2, h3, _⟩ := may_sizes hmi
    refine Ev.step (fun _ => millhandref10_Bytes.l0.eq_2 ..) (ev_pos (by omega) (ev_pos (by omega) ?_))
    rw [rd_op l i hi, List.drop_eq_getElem_cons hi]
    have ih := ref10_Bytes_l0 l hm hl d (i + 1) (acc ++ opS l[i]) (by omega) (by rw [List.length_append]; omega)
    have e : acc ++ bodyS (l[i] :: l.drop (i + 1)) = (acc ++ opS l[i]) ++ bodyS (l.drop (i + 1)) := by simp only [bodyS, List.flatMap_cons, List.append_assoc]
    rw [e]
    have hk := ref01_Text_ev (s := l[i].f0) (by omega)
    have hv := ref01_Text_ev (s := l[i].f2) (by omega)
    cases hd : l[i].f1 with
    | true =>
      have ho : opS l[i] = 1 :: textS l[i].f0 := by unfold opS; rw [if_pos hd]
      rw [ho] at hol ih ⊢
      simp only [List.length_cons] at hol
      refine ev_pos rfl (ev_pos (by omega) (Ev.step (fun _ => millhandref10_Bytes.j1.eq_2 ..) (ev_pos (by omega) (ev_pos (by omega) ?_))))
      rw [rd_op l i hi]
      refine Ev.bind hk ?_
      refine ev_pos (by show (acc ++ [1]).length + (textS l[i].f0).length < _; simp; omega) ?_
      simp only [Option.bind_some]
      refine ev_pos hd ?_
      rw [w64 (by omega) (by omega)]
      have e2 : acc ++ [1] ++ (smallN l[i].f0.size ++ bytesOf l[i].f0) = acc ++ 1 :: textS l[i].f0 := by simp [textS]
      rw [e2]
      exact ih
    | false =>
      have ho : opS l[i] = 0 :: (textS l[i].f0 ++ textS l[i].f2) := by unfold opS; rw [if_neg (by simp [hd])]
      rw [ho] at hol ih ⊢
      simp only [List.length_cons, List.length_append] at hol
      refine ev_neg (by simp) (ev_pos (by omega) (Ev.step (fun _ => millhandref10_Bytes.j1.eq_2 ..) (ev_pos (by omega) (ev_pos (by omega) ?_))))
      rw [rd_op l i hi]
      refine Ev.bind hk ?_
      refine ev_pos (by show (acc ++ [0]).length + (textS l[i].f0).length < _; simp; omega) ?_
      simp only [Option.bind_some]
      refine ev_neg (by simp [hd]) ?_
      refine Ev.bind hv ?_
      refine ev_pos (by show ((acc ++ [0]) ++ textS l[i].f0).length + (textS l[i].f2).length < _; simp; omega) ?_
      rw [w64 (by omega) (by omega)]
      have e2 : acc ++ [0] ++ (smallN l[i].f0.size ++ bytesOf l[i].f0) ++ (smallN l[i].f2.size ++ bytesOf l[i].f2) = acc ++ 0 :: (textS l[i].f0 ++ textS l[i].f2) := by simp [textS]
      rw [e2]
      exact ih
end
theorem ref10_Bytes_ev (s : Int) (l : List OpT) (hm : ∀ o ∈ l, mayS o = true) (hl : l.length ≤ 64) (h0 : 0 ≤ s) (h1 : s ≤ 1099511627776) : Ev (fun k => millhandref10_Bytes.f k s l) (allS s l) := by
  unfold millhandref10_Bytes.f allS
  rw [u64w_in (by omega) (by omega), u64w_in (by omega) (by omega)]
  have a := smallN_len10 (n := s.toNat) (by omega)
  have b := smallN_len10 (n := (l.length : Int).toNat) (by omega)
  refine Ev.bind (ref01_Small_ev (by omega) (by omega)) (ev_pos (by simp; omega) ?_)
  simp only [Option.bind_some, List.nil_append]
  refine Ev.bind (ref01_Small_ev (by omega) (by omega)) (ev_pos (by omega) ?_)
  have := ref10_Bytes_l0 l hm hl l.length 0 (smallN s.toNat ++ smallN (l.length : Int).toNat) (by omega) (by rw [List.length_append]; omega)
  rwa [List.drop_zero] at this
theorem ref10_Write_ev (s : Int) (l : List OpT) (hl : l.length < 9223372036854775807) : Ev (fun k => millhandref10_Write.f k s l) (writeS s l) := by
  unfold millhandref10_Write.f
  refine Ev.bind (ref10_Asked_ev s l hl) ?_
  unfold writeS
  refine ev_ite (fun ha => ?_) (fun _ => Ev.now _)
  obtain ⟨h1, h2, h3, h4, h5⟩ := asked_ok ha
  refine Ev.bind (ref10_Bytes_ev s l h5 h4 (by omega) (by omega)) ?_
  by_cases h : (allS s l).length > 16384
  · rw [if_pos h]; exact ev_pos (by omega) (Ev.now _)
  · rw [if_neg h]; exact ev_neg (by omega) (Ev.now _)

/-! ### entries -/
def numS (s : Int) : List OpT → List EnT
  | [] => []
  | o :: t => ⟨o.f0, s, o.f1, o.f2⟩ :: numS (s + 1) t
theorem numS_length (l : List OpT) : ∀ s, (numS s l).length = l.length := by
  induction l with
  | nil => exact fun _ => rfl
  | cons o t ih => exact fun s => by simp [numS, ih]
def entriesS (s : Int) (l : List OpT) : List EnT × Int := if askedS s l = 0 then (numS s l, 0) else ([], askedS s l)
theorem batch_Entries_l0 (s : Int) (hs : 0 ≤ s) (hs2 : s ≤ 1099511627776) (l : List OpT) (hl : l.length ≤ 64) : ∀ (d i : Nat) (acc : List EnT), i + d = l.length → acc.length + d ≤ 64 →
    Ev (fun k => batch_Entries.l0 k s acc l (l.length : Int) (i : Int)) (acc ++ numS (s + i) (l.drop i), 0)
  | 0, i, acc, h, ha => by
    refine Ev.step (fun _ => batch_Entries.l0.eq_2 ..) (ev_neg (by omega) (ev_some ?_))
    rw [List.drop_of_length_le (by omega)]
    simp [numS]
  | d + 1, i, acc, h, ha => by
    have hi : i < l.length := by omega
    refine Ev.step (fun _ => batch_Entries.l0.eq_2 ..) (ev_pos (by omega) (ev_pos (by omega) (ev_pos (by omega) (ev_pos (by omega) ?_))))
    rw [rd_op l i hi, List.drop_eq_getElem_cons hi, w64 (by omega) (by omega), w64 (by omega) (by omega)]
    have ih := batch_Entries_l0 s hs hs2 l hl d (i + 1) (acc ++ [⟨l[i].f0, s + i, l[i].f1, l[i].f2⟩]) (by omega) (by simp; omega)
    refine ev_eq ih ?_
    simp [numS, Int.add_assoc]
theorem batch_Entries_ev (s : Int) (l : List OpT) (hl : l.length < 9223372036854775807) : Ev (fun k => batch_Entries.f k s l) (entriesS s l) := by
  unfold batch_Entries.f entriesS
  refine Ev.bind (batch_asked_ev s l hl) (ev_ite (fun ha => ?_) (fun _ => Ev.now _))
  obtain ⟨h1, h2, h3, h4, h5⟩ := asked_ok ha
  have := batch_Entries_l0 s (by omega) (by omega) l h4 l.length 0 [] (by omega) (by simpa using h4)
  simpa using this
theorem ref10_Numbered_l0 (s : Int) (hs : 0 ≤ s) (hs2 : s ≤ 1099511627776) (l : List OpT) (hl : l.length ≤ 64) : ∀ (d i : Nat) (acc : List EnT), i + d = l.length → acc.length + d ≤ 64 →
    Ev (fun k => millhandref10_Numbered.l0 k s l acc (i : Int)) (acc ++ numS (s + i) (l.drop i))
  | 0, i, acc, h, ha => by
    refine Ev.step (fun _ => millhandref10_Numbered.l0.eq_2 ..) (ev_neg (by omega) (ev_some ?_))
    rw [List.drop_of_length_le (by omega)]
    simp [numS]
  | d + 1, i, acc, h, ha => by
    have hi : i < l.length := by omega
    refine Ev.step (fun _ => millhandref10_Numbered.l0.eq_2 ..) (ev_pos (by omega) (ev_pos (by omega) (ev_pos (by omega) ?_)))
    rw [rd_op l i hi, List.drop_eq_getElem_cons hi, w64 (by omega) (by omega), w64 (by omega) (by omega)]
    have ih := ref10_Numbered_l0 s hs hs2 l hl d (i + 1) (acc ++ [⟨l[i].f0, s + i, l[i].f1, l[i].f2⟩]) (by omega) (by simp; omega)
    refine ev_eq ih ?_
    simp [numS, Int.add_assoc]
theorem ref10_Entries_ev (s : Int) (l : List OpT) (hl : l.length < 9223372036854775807) : Ev (fun k => millhandref10_Entries.f k s l) (entriesS s l) := by
  unfold millhandref10_Entries.f entriesS
  refine Ev.bind (ref10_Asked_ev s l hl) (ev_ite (fun ha => ?_) (fun _ => Ev.now _))
  obtain ⟨h1, h2, h3, h4, h5⟩ := asked_ok ha
  unfold millhandref10_Numbered.f
  have := ref10_Numbered_l0 s (by omega) (by omega) l h4 l.length 0 [] (by omega) (by simpa using h4)
  refine Ev.bind (a := numS s l) (by simpa using this) (Ev.now _)

/-! ### sameness -/
theorem ref10_SameOps_l0 (l : List OpT) (hl : l.length < 9223372036854775807) : ∀ (d i : Nat), i + d = l.length → Ev (fun k => millhandref10_SameOps.l0 k l l (i : Int)) true
  | 0, i, h => Ev.step (fun _ => millhandref10_SameOps.l0.eq_2 ..) (ev_neg (by omega) (Ev.now _))
  | d + 1, i, h => by
    refine Ev.step (fun _ => millhandref10_SameOps.l0.eq_2 ..) (ev_pos (by omega) (ev_pos (by omega) (ev_pos (by omega) (ev_neg (by simp) ?_))))
    rw [w64 (by omega) (by omega)]
    exact ref10_SameOps_l0 l hl d (i + 1) (by omega)
theorem ref10_SameOps_ev (l : List OpT) (hl : l.length < 9223372036854775807) : Ev (fun k => millhandref10_SameOps.f k l l) true := by
  unfold millhandref10_SameOps.f
  exact ev_pos rfl (ref10_SameOps_l0 l hl l.length 0 (by omega))
theorem ref10_SameEntries_l0 (l : List EnT) (hl : l.length < 9223372036854775807) : ∀ (d i : Nat), i + d = l.length → Ev (fun k => millhandref10_SameEntries.l0 k l l (i : Int)) true
  | 0, i, h => Ev.step (fun _ => millhandref10_SameEntries.l0.eq_2 ..) (ev_neg (by omega) (Ev.now _))
  | d + 1, i, h => by
    refine Ev.step (fun _ => millhandref10_SameEntries.l0.eq_2 ..) (ev_pos (by omega) (ev_pos (by omega) (ev_pos (by omega) (ev_neg (by simp) ?_))))
    rw [w64 (by omega) (by omega)]
    exact ref10_SameEntries_l0 l hl d (i + 1) (by omega)
theorem ref10_SameEntries_ev (l : List EnT) (hl : l.length < 9223372036854775807) : Ev (fun k => millhandref10_SameEntries.f k l l) true := by
  unfold millhandref10_SameEntries.f
  exact ev_pos rfl (ref10_SameEntries_l0 l hl l.length 0 (by omega))
theorem ref10_GreatOps_l0 (l : List OpT) (hl : l.length < 9223372036854775807) : ∀ (d i : Nat) (n : Int), i + d = l.length → ∃ r, Ev (fun k => millhandref10_GreatOps.l0 k l n (i : Int)) r
  | 0, i, n, h => ⟨_, Ev.step (fun _ => millhandref10_GreatOps.l0.eq_2 ..) (ev_neg (by omega) (Ev.now _))⟩
  | d + 1, i, n, h => by
    by_cases hn : n ≤ 100000
    · obtain ⟨r, hr⟩ := ref10_GreatOps_l0 l hl d (i + 1) (wrap64 (n + (wrap64 ((wrap64 (10 + (((rd_T49 l i).f0).size : Int))) + (((rd_T49 l i).f2).size : Int))))) (by omega)
      refine ⟨r, Ev.step (fun _ => millhandref10_GreatOps.l0.eq_2 ..) (ev_pos (by omega) (ev_pos hn (ev_pos (by omega) ?_)))⟩
      rw [w64 (i := (i : Int) + 1) (by omega) (by omega)]
      exact hr
    · exact ⟨_, Ev.step (fun _ => millhandref10_GreatOps.l0.eq_2 ..) (ev_pos (by omega) (ev_neg hn (Ev.now _)))⟩
theorem ref10_GreatOps_ev (l : List OpT) (hl : l.length < 9223372036854775807) : ∃ r, Ev (fun k => millhandref10_GreatOps.f k l) r := by
  unfold millhandref10_GreatOps.f
  exact ref10_GreatOps_l0 l hl l.length 0 0 (by omega)

theorem BatchWrites_ev (s : Int) (l : List OpT) (hl : l.length * 40 ≤ 140737488351232) : Ev (fun k => millhandlaw10_BatchWrites.f k s l) true := by
  have hl2 : l.length < 9223372036854775807 := by omega
  unfold millhandlaw10_BatchWrites.f
  obtain ⟨g, hg⟩ := ref10_GreatOps_ev l hl2
  refine Ev.bind hg ?_
  cases g with
  | true => exact ev_pos rfl (Ev.now _)
  | false =>
    refine ev_neg (by simp) (ev_pos (by simp; omega) ?_)
    simp only [Option.bind_some, List.nil_append]
    refine Ev.bind (batch_Write_ev s l hl2) (Ev.bind (ref10_Write_ev s l hl2) (Ev.bind (batch_Entries_ev s l hl2) (Ev.bind (ref10_Entries_ev s l hl2) ?_)))
    refine ev_pos rfl (ev_pos rfl ?_)
    have he : (entriesS s l).1.length < 9223372036854775807 := by
      unfold entriesS
      split
      · show (numS s l).length < _; rw [numS_length]; omega
      · simp
    refine Ev.bind (ref10_SameEntries_ev _ he) (ev_pos rfl (ev_pos rfl ?_))
    refine Ev.bind (batch_Check_ev l hl2) (Ev.bind (ref10_Check_ev l hl2) (ev_pos rfl ?_))
    exact Ev.bind (ref10_SameOps_ev l hl2) (Ev.now _)

theorem BatchWrites_walk (w : World) (a0 : Int) (g0_ : (Lit.int .i64 a0).wf = true) (A1 : Option Addr) (c1 : Nat) (l1 : List OpT) (r1 : Kd.C k49 w A1 l1.length l1) (q1 : l1.length ≤ c1) (g1_ : (l1.length * 40 ≤ 140737488351232 ∧ l1.length ≤ 9223372036854775807 ∧ ∀ x ∈ l1, g49 x)) :
    Calls Try.prog 3 #[.int .i64 a0, .slice A1 l1.length c1] w fun e w' => e = .returned (.bool true) ∧ Below w.heap.size w w' := by
  obtain ⟨k, h⟩ := (BatchWrites_ev a0 l1 g1_.1).rounds
  exact millhandlaw10_BatchWrites.calls k a0 A1 c1 l1 true w r1 q1 h
end Go.Proofs.Ytonbfefceblfgaa.Q

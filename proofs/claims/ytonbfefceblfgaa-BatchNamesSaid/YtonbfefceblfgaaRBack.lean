/- What batches written and read come to, in plain words. -/
import Derived.Test.YtonbfefceblfgaaRx5
import Derived.Test.YtonbfefceblfgaaRx6
import Derived.Test.YtonbfefceblfgaaRx3
import Derived.Test.YtonbfefceblfgaaPlain
namespace Go.Proofs.Ytonbfefceblfgaa.R
open Go.RowKit Go.Proofs.YtonbfefceblfgaaW.PrintWords Go.Proofs.Ytonbfefceblfgaa.Plain
set_option linter.unusedVariables false

theorem code_Small_l0 : ∀ (d n : Nat) (acc : List Int), n < 128 ^ (d + 1) → acc.length + d < 140737488355300 → Ev (fun k => code_Small.l0 k (n : Int) acc) (acc ++ smallN n)
  | d, n, acc, h, hl => by
    refine Ev.step (fun _ => code_Small.l0.eq_2 ..) ?_
    by_cases h1 : n < 128
    · refine ev_neg (by omega) (ev_pos (by omega) (ev_some ?_))
      rw [smallN_lt h1]
      congr 2
      omega
    · refine ev_pos (by omega) (ev_pos (by omega) ?_)
      cases d with
      | zero => omega
      | succ d =>
        have hd : n / 128 < 128 ^ (d + 1) := by rw [Nat.div_lt_iff_lt_mul (by decide)]; rw [Nat.pow_succ] at h; exact h
        rw [smallN_ge h1, or128 (by omega) (by omega)]
        refine ev_eq (code_Small_l0 d (n / 128) _ hd (by simp; omega)) ?_
        rw [List.append_assoc, List.singleton_append]
        congr 2
        omega
theorem code_Small_ev {n : Int} (h0 : 0 ≤ n) (h : n < 18446744073709551616) : Ev (fun k => code_Small.f k n) (smallN n.toNat) := by
  obtain ⟨m, rfl⟩ := Int.eq_ofNat_of_zero_le h0
  unfold code_Small.f
  exact code_Small_l0 9 m [] (by omega) (by simp)

theorem code_Text_ev {s : ByteArray} (h : s.size ≤ 140737488351232) : Ev (fun k => code_Text.f k s) (smallN s.size ++ bytesOf s) := by
  unfold code_Text.f
  rw [u64w_in (by omega) (by omega)]
  refine Ev.bind (code_Small_ev (by omega) (by omega)) ?_
  have := smallN_len10 (n := s.size) (by omega)
  exact ev_pos (by rw [Int.toNat_natCast]; omega) (Ev.now _)

/-! ### a batch's bytes -/
def textS (s : ByteArray) : List Int := smallN s.size ++ bytesOf s
def opS (o : OpT) : List Int := if o.f1 then 1 :: textS o.f0 else 0 :: (textS o.f0 ++ textS o.f2)
def bodyS (l : List OpT) : List Int := l.flatMap opS
def allS (s : Int) (l : List OpT) : List Int := smallN s.toNat ++ smallN l.length ++ bodyS l
theorem textS_length {s : ByteArray} (h : s.size ≤ 1000) : (textS s).length ≤ s.size + 10 := by
  have := smallN_len10 (n := s.size) (by omega)
  unfold textS
  rw [List.length_append, bytesOf_length]
  omega
theorem opS_length {o : OpT} (h : mayS o = true) : (opS o).length ≤ 600 := by
  obtain ⟨h1, h2, h3, _⟩ := may_sizes h
  have a := textS_length (s := o.f0) (by omega)
  have b := textS_length (s := o.f2) (by omega)
  unfold opS
  split <;> simp <;> omega
def writeS (s : Int) (l : List OpT) : List Int × Int := if askedS s l = 0 then (if (allS s l).length > 16384 then ([], 3) else (allS s l, 0)) else ([], askedS s l)
theorem batch_Write_l0 (l : List OpT) (hm : ∀ o ∈ l, mayS o = true) (hl : l.length ≤ 64) : ∀ (d i : Nat) (acc : List Int), i + d = l.length → acc.length + 600 * d < 140737488355328 →
    Ev (fun k => batch_Write.l0 k acc l (l.length : Int) (i : Int)) (if (acc ++ bodyS (l.drop i)).length > 16384 then ([], 3) else (acc ++ bodyS (l.drop i), 0))
  | 0, i, acc, h, ha => by
    refine Ev.step (fun _ => batch_Write.l0.eq_2 ..) (ev_neg (by omega) ?_)
    rw [List.drop_of_length_le (by omega)]
    simp only [bodyS, List.flatMap_nil, List.append_nil]
    by_cases h2 : acc.length > 16384
    · rw [if_pos h2]; exact ev_pos (by omega) (Ev.now _)
    · rw [if_neg h2]; exact ev_neg (by omega) (Ev.now _)
  | d + 1, i, acc, h, ha => by
    have hi : i < l.length := by omega
    have hmi := hm _ (List.getElem_mem hi)
    have hol := opS_length hmi
    obtain ⟨h1, h2, h3, _⟩ := may_sizes hmi
    refine Ev.step (fun _ => batch_Write.l0.eq_2 ..) (ev_pos (by omega) (ev_pos (by omega) (ev_pos (by omega) ?_)))
    rw [rd_op l i hi, List.drop_eq_getElem_cons hi]
    have ih := batch_Write_l0 l hm hl d (i + 1) (acc ++ opS l[i]) (by omega) (by rw [List.length_append]; omega)
    have e : acc ++ bodyS (l[i] :: l.drop (i + 1)) = (acc ++ opS l[i]) ++ bodyS (l.drop (i + 1)) := by simp only [bodyS, List.flatMap_cons, List.append_assoc]
    rw [e]
    have hk := code_Text_ev (s := l[i].f0) (by omega)
    have hv := code_Text_ev (s := l[i].f2) (by omega)
    cases hd : l[i].f1 with
    | true =>
      have ho : opS l[i] = 1 :: textS l[i].f0 := by unfold opS; rw [if_pos hd]
      rw [ho] at hol ih ⊢
      simp only [List.length_cons] at hol
      refine ev_pos rfl (ev_pos (by omega) ?_)
      simp only [Option.bind_some]
      refine Ev.bind hk ?_
      refine ev_pos (by show (acc ++ [1]).length + (textS l[i].f0).length < _; simp; omega) ?_
      rw [w64 (by omega) (by omega)]
      have e2 : acc ++ [1] ++ (smallN l[i].f0.size ++ bytesOf l[i].f0) = acc ++ 1 :: textS l[i].f0 := by simp [textS]
      rw [e2]
      exact ih
    | false =>
      have ho : opS l[i] = 0 :: (textS l[i].f0 ++ textS l[i].f2) := by unfold opS; rw [if_neg (by simp [hd])]
      rw [ho] at hol ih ⊢
      simp only [List.length_cons, List.length_append] at hol
      refine ev_neg (by simp) (ev_pos (by omega) ?_)
      simp only [Option.bind_some]
      refine Ev.bind hk ?_
      refine ev_pos (by show (acc ++ [0]).length + (textS l[i].f0).length < _; simp; omega) ?_
      refine Ev.bind hv ?_
      refine ev_pos (by show ((acc ++ [0]) ++ textS l[i].f0).length + (textS l[i].f2).length < _; simp; omega) ?_
      rw [w64 (by omega) (by omega)]
      have e2 : acc ++ [0] ++ (smallN l[i].f0.size ++ bytesOf l[i].f0) ++ (smallN l[i].f2.size ++ bytesOf l[i].f2) = acc ++ 0 :: (textS l[i].f0 ++ textS l[i].f2) := by simp [textS]
      rw [e2]
      exact ih
theorem batch_Write_ev (s : Int) (l : List OpT) (hl : l.length < 9223372036854775807) : Ev (fun k => batch_Write.f k s l) (writeS s l) := by
  unfold batch_Write.f
  refine Ev.bind (batch_asked_ev s l hl) ?_
  unfold writeS
  refine ev_ite (fun ha => ?_) (fun _ => Ev.now _)
  obtain ⟨h1, h2, h3, h4, h5⟩ := asked_ok ha
  rw [u64w_in (by omega) (by omega), u64w_in (by omega) (by omega)]
  refine Ev.bind (code_Small_ev (by omega) (by omega)) (Ev.bind (code_Small_ev (by omega) (by omega)) ?_)
  have a := smallN_len10 (n := s.toNat) (by omega)
  have b := smallN_len10 (n := (l.length : Int).toNat) (by omega)
  refine ev_pos (by omega) ?_
  have := batch_Write_l0 l h5 h4 l.length 0 (smallN s.toNat ++ smallN (l.length : Int).toNat) (by omega) (by rw [List.length_append]; omega)
  rwa [List.drop_zero] at this

/-! ### a batch written and read -/
theorem strOf_bytes (s : ByteArray) : strOfNums (bytesOf s) = s := by
  unfold strOfNums bytesOf
  rw [List.map_map]
  have : ((fun n : Int => UInt8.ofNat n.toNat) ∘ fun b : UInt8 => (b.toNat : Int)) = id := by funext b; simp
  rw [this]
  simp
theorem bytes_strOf {l : List Int} (h : ∀ x ∈ l, 0 ≤ x ∧ x ≤ 255) : bytesOf (strOfNums l) = l := by
  show List.map (fun b : UInt8 => (b.toNat : Int)) (List.map (fun n : Int => UInt8.ofNat n.toNat) l) = l
  rw [List.map_map]
  refine (List.map_congr_left (g := id) fun x hx => ?_).trans (List.map_id l)
  have := h x hx
  show ((UInt8.ofNat x.toNat).toNat : Int) = x
  rw [UInt8.toNat_ofNat']
  omega
theorem strOf_size (l : List Int) : (strOfNums l).size = l.length := by simp [strOfNums, ByteArray.size]
theorem rd1_more : ∀ {l : List Int} {i : Nat} {p : Nat × Nat}, rd1 i l = some p → ∀ x, rd1 i (l ++ x) = some p
  | [], i, p, h, x => by simp [rd1] at h
  | y :: t, i, p, h, x => by
    rw [List.cons_append]
    simp only [rd1] at h ⊢
    by_cases h1 : i = 9 ∧ 1 < y
    · rw [if_pos h1] at h; cases h
    · rw [if_neg h1] at h ⊢
      by_cases h2 : y < 128
      · rw [if_pos h2] at h ⊢; exact h
      · rw [if_neg h2] at h ⊢
        cases hr : rd1 (i + 1) t with
        | none => rw [hr] at h; cases h
        | some q => rw [hr] at h; rw [rd1_more hr x]; exact h
theorem cutS_more {l : List Int} (h : (cutS l).2.2 = 0) (x : List Int) : cutS (l ++ x) = ((cutS l).1, (cutS l).2.1 ++ x, 0) := by
  unfold cutS at h ⊢
  cases hr : rd1 0 l with
  | none => rw [hr] at h; dsimp only at h; exact absurd h (by decide)
  | some p =>
    rw [hr] at h
    rw [rd1_more hr x]
    dsimp only at h ⊢
    by_cases hp : p.2 + p.1 ≤ l.length
    · rw [if_pos hp, if_pos (by rw [List.length_append]; omega), List.take_append_of_le_length hp, List.drop_append_of_le_length hp]
    · rw [if_neg hp] at h; exact absurd h (by decide)
theorem opsFrom_more (x : List Int) : ∀ (m : Nat) (l : List Int) (acc : List OpT) (r : List OpT × List Int), opsFrom m l acc = some r → opsFrom m (l ++ x) acc = some (r.1, r.2 ++ x)
  | 0, l, acc, r, h => by
    simp only [opsFrom] at h ⊢
    cases h
    rfl
  | m + 1, [], acc, r, h => by simp [opsFrom] at h
  | m + 1, y :: t, acc, r, h => by
    rw [List.cons_append]
    simp only [opsFrom] at h ⊢
    by_cases h1 : 1 < y
    · rw [if_pos h1] at h; cases h
    · rw [if_neg h1] at h ⊢
      by_cases h2 : (cutS t).2.2 = 0
      · rw [if_pos h2] at h
        rw [cutS_more h2 x]
        dsimp only
        rw [if_pos rfl]
        by_cases h3 : y = 1
        · rw [if_pos h3] at h ⊢
          exact opsFrom_more x _ _ _ _ h
        · rw [if_neg h3] at h ⊢
          by_cases h4 : (cutS (cutS t).2.1).2.2 = 0
          · rw [if_pos h4] at h
            rw [cutS_more h4 x]
            dsimp only
            rw [if_pos rfl]
            exact opsFrom_more x _ _ _ _ h
          · rw [if_neg h4] at h; cases h
      · rw [if_neg h2] at h; cases h
theorem cutS_only {t : List Int} (hb : ∀ x ∈ t, 0 ≤ x ∧ x ≤ 255) (h : (cutS t).2.2 = 0) : t = textS (cutS t).1 ++ (cutS t).2.1 := by
  unfold cutS at h ⊢
  cases hr : rd1 0 t with
  | none => rw [hr] at h; dsimp only at h; exact absurd h (by decide)
  | some p =>
    obtain ⟨h1, h2, h3⟩ := rd1_only0 hb hr
    rw [hr] at h
    dsimp only at h ⊢
    by_cases hp : p.2 + p.1 ≤ t.length
    · rw [if_pos hp]
      dsimp only
      have hs : (strOfNums ((t.take (p.2 + p.1)).drop p.2)).size = p.1 := by
        rw [strOf_size, List.length_drop, List.length_take]
        omega
      unfold textS
      rw [hs, bytes_strOf (fun x hx => hb x (List.mem_of_mem_take (List.mem_of_mem_drop hx))), ← h1]
      have e : t.take p.2 = (t.take (p.2 + p.1)).take p.2 := by
        rw [List.take_take]
        congr 1
        omega
      rw [e, List.take_append_drop, List.take_append_drop]
    · rw [if_neg hp] at h; exact absurd h (by decide)
theorem opsFrom_only : ∀ (m : Nat) (l : List Int) (acc : List OpT) (r : List OpT × List Int), (∀ x ∈ l, 0 ≤ x ∧ x ≤ 255) → opsFrom m l acc = some r → ∃ ops : List OpT, r.1 = acc ++ ops ∧ ops.length = m ∧ l = bodyS ops ++ r.2
  | 0, l, acc, r, hb, h => by
    simp only [opsFrom] at h
    cases h
    exact ⟨[], by simp, rfl, by simp [bodyS]⟩
  | m + 1, [], acc, r, hb, h => by simp [opsFrom] at h
  | m + 1, y :: t, acc, r, hb, h => by
    have hbt : ∀ x ∈ t, 0 ≤ x ∧ x ≤ 255 := fun x hx => hb x (List.mem_cons_of_mem _ hx)
    have hby := hb y (List.mem_cons_self ..)
    have hbc : ∀ x ∈ (cutS t).2.1, 0 ≤ x ∧ x ≤ 255 := fun x hx => hbt x (cutS_mem t x hx)
    simp only [opsFrom] at h
    by_cases h1 : 1 < y
    · rw [if_pos h1] at h; cases h
    · rw [if_neg h1] at h
      by_cases h2 : (cutS t).2.2 = 0
      · rw [if_pos h2] at h
        have e := cutS_only hbt h2
        by_cases h3 : y = 1
        · rw [if_pos h3] at h
          obtain ⟨ops, e1, e2, e3⟩ := opsFrom_only m _ _ _ hbc h
          refine ⟨⟨(cutS t).1, true, ⟨#[]⟩⟩ :: ops, by rw [e1, List.append_assoc]; rfl, by simp [e2], ?_⟩
          have eb : bodyS ((⟨(cutS t).1, true, ⟨#[]⟩⟩ : OpT) :: ops) = 1 :: textS (cutS t).1 ++ bodyS ops := rfl
          rw [eb, List.append_assoc, ← e3, h3, List.cons_append, ← e]
        · rw [if_neg h3] at h
          by_cases h4 : (cutS (cutS t).2.1).2.2 = 0
          · rw [if_pos h4] at h
            have e4 := cutS_only hbc h4
            obtain ⟨ops, e1, e2, e3⟩ := opsFrom_only m _ _ _ (fun x hx => hbc x (cutS_mem _ x hx)) h
            refine ⟨⟨(cutS t).1, false, (cutS (cutS t).2.1).1⟩ :: ops, by rw [e1, List.append_assoc]; rfl, by simp [e2], ?_⟩
            have eb : bodyS ((⟨(cutS t).1, false, (cutS (cutS t).2.1).1⟩ : OpT) :: ops) = 0 :: (textS (cutS t).1 ++ textS (cutS (cutS t).2.1).1) ++ bodyS ops := rfl
            rw [eb, List.append_assoc, ← e3, List.cons_append, List.append_assoc, ← e4, ← e, show y = 0 by omega]
          · rw [if_neg h4] at h; cases h
      · rw [if_neg h2] at h; cases h
theorem cutS_text {s : ByteArray} (h : s.size < 18446744073709551616) (rest : List Int) : cutS (textS s ++ rest) = (s, rest, 0) := by
  unfold cutS textS
  rw [List.append_assoc, rd1_small0 h]
  dsimp only
  rw [if_pos (by simp only [List.length_append, bytesOf_length]; omega)]
  have e1 : ((smallN s.size ++ (bytesOf s ++ rest)).take ((smallN s.size).length + s.size)).drop (smallN s.size).length = bytesOf s := by
    rw [← List.append_assoc, List.take_left' (by simp only [List.length_append, bytesOf_length]), List.drop_left]
  have e2 : (smallN s.size ++ (bytesOf s ++ rest)).drop ((smallN s.size).length + s.size) = rest := by
    rw [← List.append_assoc, List.drop_left' (by simp only [List.length_append, bytesOf_length])]
  rw [e1, e2, strOf_bytes]
theorem opsFrom_body : ∀ (ops acc : List OpT) (rest : List Int), (∀ o ∈ ops, mayS o = true) → opsFrom ops.length (bodyS ops ++ rest) acc = some (acc ++ ops, rest)
  | [], acc, rest, _ => by simp [opsFrom, bodyS]
  | o :: t, acc, rest, h => by
    obtain ⟨h1, h2, h3, h4⟩ := may_sizes (h o (List.mem_cons_self ..))
    have ih := fun acc => opsFrom_body t acc rest (fun o ho => h o (List.mem_cons_of_mem _ ho))
    obtain ⟨f0, f1, f2⟩ := o
    dsimp only at h1 h2 h3 h4
    have e : bodyS ((⟨f0, f1, f2⟩ : OpT) :: t) ++ rest = opS ⟨f0, f1, f2⟩ ++ (bodyS t ++ rest) := by simp [bodyS, List.append_assoc]
    rw [e]
    cases f1 with
    | true =>
      have hf : f2 = ⟨#[]⟩ := by
        have := h4 rfl
        have h5 : f2.data.toList = [] := by rw [← ByteArray.toList_eq]; exact this
        cases f2 with
        | mk d => cases d with
          | mk l => cases h5; rfl
      subst hf
      show opsFrom (t.length + 1) (1 :: (textS f0 ++ (bodyS t ++ rest))) acc = _
      simp only [opsFrom]
      rw [if_neg (by decide), cutS_text (by omega)]
      dsimp only
      rw [if_pos rfl, if_pos trivial, ih]
      simp
    | false =>
      show opsFrom (t.length + 1) (0 :: ((textS f0 ++ textS f2) ++ (bodyS t ++ rest))) acc = _
      simp only [opsFrom]
      rw [if_neg (by decide), List.append_assoc, cutS_text (by omega)]
      dsimp only
      rw [if_pos rfl, if_neg (by decide), cutS_text (by omega)]
      dsimp only
      rw [if_pos rfl, ih]
      simp
theorem readBatch_all {s : Int} {l : List OpT} (h : askedS s l = 0) (hl : (allS s l).length ≤ 16384) : readBatch (allS s l) = (s, l, 0) := by
  obtain ⟨h1, h2, h3, h4, h5⟩ := asked_ok h
  unfold readBatch
  rw [if_neg (by omega)]
  have e : allS s l = smallN s.toNat ++ (smallN l.length ++ bodyS l) := by unfold allS; rw [List.append_assoc]
  rw [e, rd1_small0 (by omega)]
  dsimp only
  rw [if_neg (by omega), List.drop_left, rd1_small0 (by omega)]
  dsimp only
  rw [if_neg (by omega), List.drop_left]
  unfold readOps
  have e2 := opsFrom_body l [] [] h5
  rw [List.append_nil, List.nil_append] at e2
  rw [e2]
  dsimp only
  rw [show ((s.toNat : Nat) : Int) = s by omega, if_pos ⟨rfl, h⟩]
theorem readBatch_inv {l : List Int} (hl : l.length ≤ 16384) : readBatch l = (0, [], 8) ∨ ∃ (p q : Nat × Nat) (r : List OpT), rd1 0 l = some p ∧ p.1 ≤ 1099511627776 ∧ rd1 0 (l.drop p.2) = some q ∧ q.1 ≤ 64 ∧ opsFrom q.1 ((l.drop p.2).drop q.2) [] = some (r, []) ∧ askedS (p.1 : Int) r = 0 ∧ readBatch l = ((p.1 : Int), r, 0) := by
  unfold readBatch
  rw [if_neg (by omega)]
  cases hp : rd1 0 l with
  | none => exact .inl rfl
  | some p =>
    dsimp only
    by_cases h1 : p.1 > 1099511627776
    · rw [if_pos h1]; exact .inl rfl
    · rw [if_neg h1]
      cases hq : rd1 0 (l.drop p.2) with
      | none => exact .inl rfl
      | some q =>
        dsimp only
        by_cases h2 : q.1 > 64
        · rw [if_pos h2]; exact .inl rfl
        · rw [if_neg h2]
          unfold readOps
          cases ho : opsFrom q.1 ((l.drop p.2).drop q.2) [] with
          | none => exact .inl rfl
          | some r =>
            dsimp only
            by_cases h3 : r.2.length = 0 ∧ askedS (p.1 : Int) r.1 = 0
            · rw [if_pos h3]
              obtain ⟨r, r2⟩ := r
              obtain rfl : r2 = [] := List.eq_nil_of_length_eq_zero h3.1
              exact .inr ⟨p, q, r, rfl, by omega, hq, by omega, ho, h3.2, rfl⟩
            · rw [if_neg h3]; exact .inl rfl
theorem readBatch_only {l : List Int} (hb : ∀ x ∈ l, 0 ≤ x ∧ x ≤ 255) : (∃ e, e ≠ 0 ∧ readBatch l = (0, [], e)) ∨ ∃ (s : Int) (r : List OpT), readBatch l = (s, r, 0) ∧ writeS s r = (l, 0) := by
  by_cases hl : l.length ≤ 16384
  · rcases readBatch_inv hl with h | ⟨p, q, r, hp, hp1, hq, hq1, ho, ha, h⟩
    · exact .inl ⟨8, by decide, h⟩
    · refine .inr ⟨(p.1 : Int), r, h, ?_⟩
      have hbd : ∀ x ∈ l.drop p.2, 0 ≤ x ∧ x ≤ 255 := fun x hx => hb x (List.mem_of_mem_drop hx)
      obtain ⟨a1, _, _⟩ := rd1_only0 hb hp
      obtain ⟨b1, _, _⟩ := rd1_only0 hbd hq
      obtain ⟨ops, e1, e2, e3⟩ := opsFrom_only _ _ _ _ (fun x hx => hbd x (List.mem_of_mem_drop hx)) ho
      rw [List.nil_append] at e1
      dsimp only at e1 e3
      subst e1
      rw [List.append_nil] at e3
      have e : allS (p.1 : Int) r = l := by
        unfold allS
        rw [Int.toNat_natCast, e2, ← a1, ← b1, ← e3, List.append_assoc, List.take_append_drop, List.take_append_drop]
      unfold writeS
      rw [if_pos ha, e, if_neg (by omega)]
  · refine .inl ⟨3, by decide, ?_⟩
    unfold readBatch
    rw [if_pos (by omega)]
theorem readBatch_cut {s : Int} {l : List OpT} (h : askedS s l = 0) (hl : (allS s l).length ≤ 16384) {n : Nat} (hn : n < (allS s l).length) : readBatch ((allS s l).take n) = (0, [], 8) := by
  obtain ⟨h1, h2, h3, h4, h5⟩ := asked_ok h
  rcases readBatch_inv (l := (allS s l).take n) (by rw [List.length_take]; omega) with hx | ⟨p, q, r, hp, hp1, hq, hq1, ho, ha, hx⟩
  · exact hx
  · exfalso
    have hpl := rd1_len hp
    have hql := rd1_len hq
    have hp2 := rd1_more hp ((allS s l).drop n)
    rw [List.take_append_drop] at hp2
    have e : allS s l = smallN s.toNat ++ (smallN l.length ++ bodyS l) := by unfold allS; rw [List.append_assoc]
    have ed : (allS s l).drop p.2 = ((allS s l).take n).drop p.2 ++ (allS s l).drop n := by
      conv => lhs; rw [← List.take_append_drop n (allS s l)]
      rw [List.drop_append_of_le_length hpl.2]
    have hq2 := rd1_more hq ((allS s l).drop n)
    rw [← ed] at hq2
    have ed2 : ((allS s l).drop p.2).drop q.2 = (((allS s l).take n).drop p.2).drop q.2 ++ (allS s l).drop n := by
      rw [ed, List.drop_append_of_le_length hql.2]
    have ho2 := opsFrom_more ((allS s l).drop n) _ _ _ _ ho
    rw [← ed2] at ho2
    rw [e, rd1_small0 (by omega)] at hp2
    obtain rfl := Option.some.inj hp2
    dsimp only at hq2 ho2
    rw [e, List.drop_left, rd1_small0 (by omega)] at hq2
    obtain rfl := Option.some.inj hq2
    dsimp only at ho2
    rw [e, List.drop_left, List.drop_left] at ho2
    have e2 := opsFrom_body l [] [] h5
    rw [List.append_nil, List.nil_append] at e2
    rw [e2] at ho2
    have := congrArg (fun x => (Option.getD x ([], [])).2.length) ho2
    simp only [Option.getD_some, List.length_nil, List.nil_append, List.length_drop, List.length_append] at this
    rw [e] at hn
    simp only [List.length_append] at hn
    omega
end Go.Proofs.Ytonbfefceblfgaa.R

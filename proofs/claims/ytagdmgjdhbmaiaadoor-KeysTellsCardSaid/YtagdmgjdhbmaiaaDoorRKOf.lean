/- What a key is. -/
import Derived.Test.YtagdmgjdhbmaiaaDoorRx22
import Derived.Test.YtagdmgjdhbmaiaaDoorRx23
import Derived.Test.YtagdmgjdhbmaiaaDoorRKMade
import Derived.Test.YtagdmgjdhbmaiaaDoorRKOrd
namespace Go.Proofs.YtagdmgjdhbmaiaaDoor.R
open Go.RowKit Go.Proofs.YtagdmgjdhbmaiaaDoorW.PrintWords Go.Proofs.YtagdmgjdhbmaiaaDoorW.PrintLast Go.Proofs.YtagdmgjdhbmaiaaDoorW.PrintMore Go.Proofs.YtagdmgjdhbmaiaaDoor.Plain
set_option linter.unusedVariables false
set_option linter.unusedSimpArgs false
/-- What is told of a key. -/
def numS (l : List PartT) (least : Int) : Option Int :=
  match l with
  | [_, p] => if p.f0 = false ∧ least ≤ p.f1 ∧ p.f1 ≤ 1099511627776 then some p.f1 else none
  | _ => none
theorem numS_two (a p : PartT) (least : Int) : numS [a, p] least = if p.f0 = false ∧ least ≤ p.f1 ∧ p.f1 ≤ 1099511627776 then some p.f1 else none := rfl
theorem rd_two (a b : PartT) : rd_T50 [a, b] 1 = b := rfl
theorem number_eq (l : List PartT) (least : Int) (h0 : 0 ≤ least) : keys_number.f l least = some (match numS l least with | some n => (n, true) | none => (0, false)) := by
  unfold keys_number.f
  match l with
  | [] => rfl
  | [a] => rfl
  | [a, p] =>
    rw [if_pos (by rfl), if_pos (by simp), rd_two]
    rw [numS_two]
    by_cases ht : p.f0 = true
    · rw [if_pos ht, if_neg (by rw [ht]; simp)]
    · rw [if_neg ht]
      by_cases h1 : p.f1 < least
      · rw [if_pos h1, if_neg (by omega)]
      · rw [if_neg h1]
        by_cases h2 : p.f1 > 1099511627776
        · rw [if_pos h2, if_neg (by omega)]
        · rw [if_neg h2, if_pos ⟨by simpa using ht, by omega, by omega⟩, w64 (by omega) (by omega)]
  | a :: b :: c :: l =>
    rw [if_neg (by simp; omega)]
    rfl
def badS : Int × Int × ByteArray × Int := (0, 0, ⟨#[]⟩, 8)
def nameOk (l : List PartT) : Bool := match l with
  | [_, q] => q.f0 && (decide (1 ≤ q.f2.size) && decide (q.f2.size ≤ 24))
  | _ => false
def kindS (l : List PartT) : Int × Int × ByteArray × Int :=
  if (rd_T50 l 0).f0 = false then badS
  else if (rd_T50 l 0).f2.toList = [101] then (match numS l 1 with | some n => (1, n, ⟨#[]⟩, 0) | none => badS)
  else if (rd_T50 l 0).f2.toList = [104] then (if l.length = 1 then (2, 0, ⟨#[]⟩, 0) else badS)
  else if (rd_T50 l 0).f2.toList = [107] then (if nameOk l = true then (3, 0, (rd_T50 l 1).f2, 0) else badS)
  else if (rd_T50 l 0).f2.toList = [114] then (match numS l 0 with | some n => (4, n, ⟨#[]⟩, 0) | none => badS)
  else badS
def ofS (s : ByteArray) : Int × Int × ByteArray × Int := if (partsS s).2 = 0 then kindS (partsS s).1 else badS
theorem parts_ok (s : ByteArray) (h : (partsS s).2 = 0) : s.data.toList = keyU (partsS s).1 ∧ (∀ p ∈ (partsS s).1, okP p) ∧ (partsS s).1.length ≤ 8 ∧ 1 ≤ (partsS s).1.length ∧ 1 ≤ s.size ∧ s.size ≤ 64 := by
  have hz := Lib.size_eq s
  by_cases hb : s.size = 0 ∨ 64 < s.size
  · rw [show partsS s = ([], 3) by unfold partsS; rw [if_pos hb]] at h
    exact absurd h (by decide)
  · have e : partsS s = partsB 9 s.data.toList [] := by unfold partsS; rw [if_neg hb]
    have e2 : partsB 9 s.data.toList [] = ((partsS s).1, 0) := by rw [← e, ← h]
    obtain ⟨m, h1, h2, h3, h4⟩ := key_partsB 9 _ _ _ e2 (by simp)
    rw [List.nil_append] at h1
    rw [h1] at h4 ⊢
    refine ⟨h2, h3, h4, ?_, by omega, by omega⟩
    cases m with
    | nil =>
      rw [h2] at hz
      have e0 : (keyU []).length = 0 := rfl
      omega
    | cons p m => simp
theorem keys_Of_ev (s : ByteArray) : Ev (fun k => keys_Of.f k s) (ofS s) := by
  unfold keys_Of.f
  refine Ev.bind (code_Parts_ev s) ?_
  unfold ofS
  by_cases h : (partsS s).2 = 0
  · obtain ⟨_, _, _, hl, _, _⟩ := parts_ok s h
    rw [if_pos h]
    refine ev_pos h (ev_pos (by omega) ?_)
    generalize (partsS s).1 = l at hl
    refine Ev.step (fun _ => keys_Of.j0.eq_2 ..) ?_
    unfold kindS
    by_cases h0 : (rd_T50 l 0).f0 = false
    · rw [if_pos h0]
      exact ev_pos (by rw [h0]; rfl) (Ev.now _)
    · rw [if_neg h0]
      refine ev_neg (by simpa using h0) (ev_pos (by omega) ?_)
      by_cases h1 : (rd_T50 l 0).f2.toList = [101]
      · rw [if_pos h1]
        refine ev_pos h1 ?_
        simp only [number_eq l 1 (by omega), Option.bind_some]
        cases numS l 1 with
        | none => exact ev_neg (by decide) (Ev.now _)
        | some n => exact ev_pos rfl (Ev.now _)
      · rw [if_neg h1]
        refine ev_neg h1 ?_
        by_cases h2 : (rd_T50 l 0).f2.toList = [104]
        · rw [if_pos h2]
          refine ev_pos h2 ?_
          by_cases h3 : l.length = 1
          · rw [if_pos h3]
            exact ev_pos (by omega) (Ev.now _)
          · rw [if_neg h3]
            exact ev_neg (by omega) (Ev.now _)
        · rw [if_neg h2]
          refine ev_neg h2 ?_
          by_cases h3 : (rd_T50 l 0).f2.toList = [107]
          · rw [if_pos h3]
            refine ev_pos h3 ?_
            match l, hl with
            | [a], _ => exact ev_neg (by simp) (Ev.step (fun _ => keys_Of.j1.eq_2 ..) (ev_neg (by simp) (by rw [if_neg (show ¬ nameOk [a] = true by simp [nameOk])]; exact Ev.now _)))
            | [a, q], _ =>
              refine ev_pos (by rfl) (ev_pos (by simp) ?_)
              rw [rd_two]
              by_cases q0 : q.f0 = true
              · refine ev_pos q0 ?_
                by_cases q1 : 1 ≤ q.f2.size
                · refine ev_pos (by omega) (Ev.step (fun _ => keys_Of.j1.eq_2 ..) ?_)
                  by_cases q2 : q.f2.size ≤ 24
                  · rw [if_pos (show nameOk [a, q] = true by simp [nameOk, q0, q1, q2])]
                    exact ev_pos (by simp; omega) (ev_pos (by simp) (Ev.now _))
                  · rw [if_neg (show ¬ nameOk [a, q] = true by simp [nameOk, q2])]
                    exact ev_neg (by simp; omega) (Ev.now _)
                · rw [if_neg (show ¬ nameOk [a, q] = true by simp [nameOk]; omega)]
                  exact ev_neg (by omega) (Ev.step (fun _ => keys_Of.j1.eq_2 ..) (ev_neg (by simp) (Ev.now _)))
              · rw [if_neg (show ¬ nameOk [a, q] = true by simp [nameOk, q0])]
                exact ev_neg q0 (Ev.step (fun _ => keys_Of.j1.eq_2 ..) (ev_neg (by simp) (Ev.now _)))
            | a :: b :: c :: l, _ => exact ev_neg (by simp; omega) (Ev.step (fun _ => keys_Of.j1.eq_2 ..) (ev_neg (by simp) (by rw [if_neg (show ¬ nameOk (a :: b :: c :: l) = true by simp [nameOk])]; exact Ev.now _)))
          · rw [if_neg h3]
            refine ev_neg h3 ?_
            by_cases h4 : (rd_T50 l 0).f2.toList = [114]
            · rw [if_pos h4, if_pos h4]
              simp only [number_eq l 0 (by omega), Option.bind_some]
              cases numS l 0 with
              | none => exact ev_neg (by decide) (Ev.now _)
              | some n => exact ev_pos rfl (Ev.now _)
            · rw [if_neg h4, if_neg h4]
              exact Ev.now _
  · rw [if_neg h]
    exact ev_neg h (Ev.step (fun _ => keys_Of.j0.eq_2 ..) (ev_pos rfl (Ev.now _)))

/-! ### keys as bytes -/
def letC (kind : Int) : UInt8 := if kind = 1 then 101 else if kind = 2 then 104 else if kind = 3 then 107 else 114
def keyOf (kind : Int) (l : List PartT) : ByteArray := ⟨(keyU (letP kind :: l)).toArray⟩
theorem let_U (kind : Int) (h : 1 ≤ kind ∧ kind ≤ 4) : partU (letP kind) = [2, letC kind, 0, 0] := by
  obtain rfl | rfl | rfl | rfl : kind = 1 ∨ kind = 2 ∨ kind = 3 ∨ kind = 4 := by omega
  all_goals rfl
theorem let_ok (kind : Int) : okP (letP kind) := by
  unfold okP letP
  simp
theorem let_size (kind : Int) : (letP kind).f2.size ≤ 64 := by
  unfold letP letU
  repeat (first | split | (show (1 : Nat) ≤ 64; decide))
theorem keyOf_list (kind : Int) (h : 1 ≤ kind ∧ kind ≤ 4) (l : List PartT) : (keyOf kind l).data.toList = 2 :: letC kind :: 0 :: 0 :: keyU l := by
  unfold keyOf
  rw [keyU_cons, let_U kind h]
  rfl
theorem keyOf_size (kind : Int) (h : 1 ≤ kind ∧ kind ≤ 4) (l : List PartT) : (keyOf kind l).size = 4 + (keyU l).length := by
  rw [Lib.size_eq, keyOf_list kind h]
  simp
  omega
theorem made_eq (kind : Int) (h : 1 ≤ kind ∧ kind ≤ 4) (l : List PartT) (hl : l.length ≤ 7) (hok : ∀ p ∈ l, okP p) (hb : ∀ p ∈ l, p.f2.size ≤ 64) (hz : (keyU l).length ≤ 60) : madeS kind l = keyOf kind l := by
  unfold madeS keyOf
  rw [keyS_ok (letP kind :: l) (by simp) (by simp; omega) ?_ ?_ ?_]
  · intro p hp
    rcases List.mem_cons.mp hp with rfl | hp
    · exact let_ok kind
    · exact hok p hp
  · intro p hp
    rcases List.mem_cons.mp hp with rfl | hp
    · exact let_size kind
    · exact hb p hp
  · rw [keyU_cons, let_U kind h]
    simp
    omega
theorem parts_keyOf (kind : Int) (h : 1 ≤ kind ∧ kind ≤ 4) (l : List PartT) (hl : l.length ≤ 7) (hok : ∀ p ∈ l, okP p) (hz : (keyU l).length ≤ 60) : partsS (keyOf kind l) = (letP kind :: l, 0) := by
  unfold keyOf
  refine parts_key _ (by simp) (by simp; omega) ?_ ?_
  · intro p hp
    rcases List.mem_cons.mp hp with rfl | hp
    · exact let_ok kind
    · exact hok p hp
  · rw [keyU_cons, let_U kind h]
    simp
    omega
def nameP (s : ByteArray) : PartT := ⟨true, 0, s⟩
theorem num_U (n : Int) : keyU [numP n] = 1 :: be8U n := by simp [keyU, numP, partU]
theorem name_U (s : ByteArray) : keyU [nameP s] = 2 :: (Esc.esc s.data.toList ++ [0, 0]) := by simp [keyU, nameP, partU]
theorem num_ok (n : Int) (h0 : 0 ≤ n) (h1 : n ≤ 1099511627776) : ∀ p ∈ [numP n], okP p := by
  intro p hp
  rw [List.mem_singleton] at hp
  subst hp
  unfold okP numP
  simp
  omega
theorem name_ok (s : ByteArray) : ∀ p ∈ [nameP s], okP p := by
  intro p hp
  rw [List.mem_singleton] at hp
  subst hp
  unfold okP nameP
  simp
theorem num_len (n : Int) : (keyU [numP n]).length = 9 := by rw [num_U]; rfl
theorem name_len (s : ByteArray) (h : s.size ≤ 24) : (keyU [nameP s]).length ≤ 51 := by
  rw [name_U]
  have h2 := Esc.esc_length s.data.toList
  have h3 := Esc.count_le s.data.toList
  have h4 := Lib.size_eq s
  simp
  omega
theorem num_size (n : Int) : ∀ p ∈ [numP n], p.f2.size ≤ 64 := by
  intro p hp
  rw [List.mem_singleton] at hp
  subst hp
  exact Nat.zero_le _
theorem name_size (s : ByteArray) (h : s.size ≤ 24) : ∀ p ∈ [nameP s], p.f2.size ≤ 64 := by
  intro p hp
  rw [List.mem_singleton] at hp
  subst hp
  show s.size ≤ 64
  omega
theorem run_in (n : Int) (h0 : 0 ≤ n) (h1 : n ≤ 1099511627776) : runS n = (keyOf 4 [numP n], 0) := by
  unfold runS
  rw [if_neg (by omega), made_eq 4 (by omega) _ (by simp) (num_ok n h0 h1) (num_size n) (by rw [num_len]; omega)]
theorem event_in (n : Int) (h0 : 1 ≤ n) (h1 : n ≤ 1099511627776) : eventS n = (keyOf 1 [numP n], 0) := by
  unfold eventS
  rw [if_neg (by omega), made_eq 1 (by omega) _ (by simp) (num_ok n (by omega) h1) (num_size n) (by rw [num_len]; omega)]
theorem name_in (s : ByteArray) (h0 : 1 ≤ s.size) (h1 : s.size ≤ 24) : nameS s = (keyOf 3 [nameP s], 0) := by
  have := name_len s h1
  unfold nameS
  rw [if_neg (by omega)]
  show (madeS 3 [nameP s], (0 : Int)) = _
  rw [made_eq 3 (by omega) _ (by simp) (name_ok s) (name_size s h1) (by omega)]
theorem run_out (n : Int) : (runS n).2 = 0 → 0 ≤ n ∧ n ≤ 1099511627776 := by
  unfold runS
  split
  · intro h; exact absurd h (by decide)
  · intro _; omega
theorem event_out (n : Int) : (eventS n).2 = 0 → 1 ≤ n ∧ n ≤ 1099511627776 := by
  unfold eventS
  split
  · intro h; exact absurd h (by decide)
  · intro _; omega
theorem name_out (s : ByteArray) : (nameS s).2 = 0 → 1 ≤ s.size ∧ s.size ≤ 24 := by
  unfold nameS
  split
  · intro h; exact absurd h (by decide)
  · intro _; omega
theorem rd_zero (a : PartT) (l : List PartT) : rd_T50 (a :: l) 0 = a := rfl
theorem let_list (kind : Int) : (letP kind).f2.toList = letU kind := by
  unfold letP
  rw [ByteArray.toList_eq]
theorem of_run (n : Int) (h0 : 0 ≤ n) (h1 : n ≤ 1099511627776) : ofS (keyOf 4 [numP n]) = (4, n, ⟨#[]⟩, 0) := by
  unfold ofS
  rw [parts_keyOf 4 (by omega) _ (by simp) (num_ok n h0 h1) (by rw [num_len]; omega)]
  simp only [if_true, kindS, rd_zero, let_list]
  rw [if_neg (by simp [letP]), if_neg (by decide), if_neg (by decide), if_neg (by decide), if_pos (by decide), numS_two, if_pos ⟨rfl, h0, h1⟩]
  rfl
theorem of_event (n : Int) (h0 : 1 ≤ n) (h1 : n ≤ 1099511627776) : ofS (keyOf 1 [numP n]) = (1, n, ⟨#[]⟩, 0) := by
  unfold ofS
  rw [parts_keyOf 1 (by omega) _ (by simp) (num_ok n (by omega) h1) (by rw [num_len]; omega)]
  simp only [if_true, kindS, rd_zero, let_list]
  rw [if_neg (by simp [letP]), if_pos (by decide), numS_two, if_pos ⟨rfl, h0, h1⟩]
  rfl
theorem of_name (s : ByteArray) (h0 : 1 ≤ s.size) (h1 : s.size ≤ 24) : ofS (keyOf 3 [nameP s]) = (3, 0, s, 0) := by
  have := name_len s h1
  unfold ofS
  rw [parts_keyOf 3 (by omega) _ (by simp) (name_ok s) (by omega)]
  simp only [if_true, kindS, rd_zero, let_list]
  rw [if_neg (by simp [letP]), if_neg (by decide), if_neg (by decide), if_pos (by decide), rd_two, if_pos (by simp [nameOk, nameP, h0, h1])]
  rfl
theorem of_head : ofS (keyOf 2 []) = (2, 0, ⟨#[]⟩, 0) := by
  unfold ofS
  rw [parts_keyOf 2 (by omega) _ (by simp) (by simp) (by simp [keyU])]
  simp only [if_true, kindS, rd_zero, let_list]
  rw [if_neg (by simp [letP]), if_neg (by decide), if_pos (by decide)]
  rfl
theorem made_head : madeS 2 [] = keyOf 2 [] := made_eq 2 (by omega) _ (by simp) (by simp) (by simp) (by simp [keyU])
theorem let_only (p : PartT) (kind : Int) (hp : okP p) (h0 : p.f0 ≠ false) (h : p.f2.toList = letU kind) : p = letP kind := by
  obtain ⟨a, b, c⟩ := p
  have ha : a = true := by simpa using h0
  subst ha
  unfold okP at hp
  simp only [if_true] at hp
  subst hp
  simp only at h
  rw [ByteArray.toList_eq] at h
  unfold letP
  rw [← h]
theorem num_only (l : List PartT) (least n : Int) (hl : ∀ p ∈ l, okP p) (h : numS l least = some n) : ∃ a, l = [a, numP n] ∧ least ≤ n ∧ n ≤ 1099511627776 := by
  match l, h with
  | [a, p], h =>
    rw [numS_two] at h
    by_cases hc : p.f0 = false ∧ least ≤ p.f1 ∧ p.f1 ≤ 1099511627776
    · rw [if_pos hc] at h
      have e := Option.some.inj h
      have hp := hl p (by simp)
      obtain ⟨x, y, z⟩ := p
      unfold okP at hp
      simp only at hc hp e
      obtain ⟨rfl, h1, h2⟩ := hc
      subst e
      simp only [Bool.false_eq_true, if_false] at hp
      exact ⟨a, by rw [hp.1]; rfl, h1, h2⟩
    · rw [if_neg hc] at h
      exact absurd h (by simp)
/-- What is told as a key is that key. -/
theorem of_only (s : ByteArray) (h : (ofS s).2.2.2 = 0) :
    (∃ n, 0 ≤ n ∧ n ≤ 1099511627776 ∧ s = keyOf 4 [numP n] ∧ ofS s = (4, n, ⟨#[]⟩, 0)) ∨ (∃ n, 1 ≤ n ∧ n ≤ 1099511627776 ∧ s = keyOf 1 [numP n] ∧ ofS s = (1, n, ⟨#[]⟩, 0)) ∨
    (∃ t, 1 ≤ t.size ∧ t.size ≤ 24 ∧ s = keyOf 3 [nameP t] ∧ ofS s = (3, 0, t, 0)) ∨ (s = keyOf 2 [] ∧ ofS s = (2, 0, ⟨#[]⟩, 0)) := by
  by_cases hp : (partsS s).2 = 0
  · obtain ⟨h1, h2, h3, h4, h5, h6⟩ := parts_ok s hp
    have hs : s = ⟨(keyU (partsS s).1).toArray⟩ := by rw [← h1]
    have ho : ofS s = kindS (partsS s).1 := by unfold ofS; rw [if_pos hp]
    rw [ho] at h ⊢
    generalize (partsS s).1 = l at h2 h3 h4 hs h
    obtain ⟨a, q, rfl⟩ : ∃ a q, l = a :: q := by
      cases l with
      | nil => simp at h4
      | cons a q => exact ⟨a, q, rfl⟩
    have ha := h2 a (by simp)
    unfold kindS at h ⊢
    rw [rd_zero] at h ⊢
    by_cases h0 : a.f0 = false
    · rw [if_pos h0] at h
      exact absurd h (by decide)
    · rw [if_neg h0] at h ⊢
      by_cases k1 : a.f2.toList = [101]
      · rw [if_pos k1] at h ⊢
        cases hn : numS (a :: q) 1 with
        | none => rw [hn] at h; exact absurd h (by decide)
        | some n =>
          obtain ⟨b, hb, h7, h8⟩ := num_only _ _ _ h2 hn
          injection hb with e1 e2
          subst e2
          refine Or.inr (Or.inl ⟨n, h7, h8, ?_, rfl⟩)
          rw [hs, let_only a 1 ha h0 k1]
          rfl
      · rw [if_neg k1] at h ⊢
        by_cases k2 : a.f2.toList = [104]
        · rw [if_pos k2] at h ⊢
          by_cases hl : (a :: q).length = 1
          · rw [if_pos hl] at h ⊢
            have hq : q = [] := List.eq_nil_of_length_eq_zero (by simpa using hl)
            subst hq
            refine Or.inr (Or.inr (Or.inr ⟨?_, rfl⟩))
            rw [hs, let_only a 2 ha h0 k2]
            rfl
          · rw [if_neg hl] at h
            exact absurd h (by decide)
        · rw [if_neg k2] at h ⊢
          by_cases k3 : a.f2.toList = [107]
          · rw [if_pos k3] at h ⊢
            by_cases hn : nameOk (a :: q) = true
            · rw [if_pos hn] at h ⊢
              obtain ⟨b, rfl⟩ : ∃ b, q = [b] := by
                match q, hn with
                | [b], _ => exact ⟨b, rfl⟩
              simp [nameOk] at hn
              have hb := h2 b (by simp)
              rw [rd_two]
              have e : b = nameP b.f2 := by
                obtain ⟨x, y, z⟩ := b
                unfold okP at hb
                simp only at hn hb
                rw [if_pos hn.1] at hb
                rw [hn.1, hb]
                rfl
              refine Or.inr (Or.inr (Or.inl ⟨b.f2, hn.2.1, hn.2.2, ?_, rfl⟩))
              rw [hs, let_only a 3 ha h0 k3, ← e]
              rfl
            · rw [if_neg hn] at h
              exact absurd h (by decide)
          · rw [if_neg k3] at h ⊢
            by_cases k4 : a.f2.toList = [114]
            · rw [if_pos k4] at h ⊢
              cases hn : numS (a :: q) 0 with
              | none => rw [hn] at h; exact absurd h (by decide)
              | some n =>
                obtain ⟨b, hb, h7, h8⟩ := num_only _ _ _ h2 hn
                injection hb with e1 e2
                subst e2
                refine Or.inl ⟨n, h7, h8, ?_, rfl⟩
                rw [hs, let_only a 4 ha h0 k4]
                rfl
            · rw [if_neg k4] at h
              exact absurd h (by decide)
  · have ho : ofS s = badS := by unfold ofS; rw [if_neg hp]
    rw [ho] at h
    exact absurd h (by decide)
theorem of_bad (s : ByteArray) (h : (ofS s).2.2.2 ≠ 0) : ofS s = badS := by
  unfold ofS at *
  by_cases hp : (partsS s).2 = 0
  · rw [if_pos hp] at h ⊢
    unfold kindS at *
    repeat' split at h
    all_goals first | exact absurd rfl h | (simp only [*, if_true, if_false]; rfl) | skip
    all_goals simp_all
  · rw [if_neg hp]
end Go.Proofs.YtagdmgjdhbmaiaaDoor.R

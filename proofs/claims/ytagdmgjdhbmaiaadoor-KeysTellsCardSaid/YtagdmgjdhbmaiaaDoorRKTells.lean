/- Keys, which a key is, and ranges are the document's. -/
import Derived.Test.YtagdmgjdhbmaiaaDoorRx29
import Derived.Test.YtagdmgjdhbmaiaaDoorRx26
import Derived.Test.YtagdmgjdhbmaiaaDoorRx27
import Derived.Test.YtagdmgjdhbmaiaaDoorRx28
import Derived.Test.YtagdmgjdhbmaiaaDoorRx24
import Derived.Test.YtagdmgjdhbmaiaaDoorRKOf
import Derived.Test.YtagdmgjdhbmaiaaDoorRKRef
namespace Go.Proofs.YtagdmgjdhbmaiaaDoor.R
open Go.RowKit Go.Proofs.YtagdmgjdhbmaiaaDoorW.PrintWords Go.Proofs.YtagdmgjdhbmaiaaDoorW.PrintLast Go.Proofs.YtagdmgjdhbmaiaaDoorW.PrintMore Go.Proofs.YtagdmgjdhbmaiaaDoor.Plain
set_option linter.unusedVariables false
set_option linter.unusedSimpArgs false
def rangeS (kind : Int) : ByteArray × ByteArray × Int := if kind < 1 ∨ 4 < kind then (⟨#[]⟩, ⟨#[]⟩, 2) else (⟨#[2, letC kind, 0, 0]⟩, ⟨#[2, letC kind, 0, 1]⟩, 0)
theorem range_ev (kind : Int) : Ev (fun k => keys_Range.f k kind) (rangeS kind) := by
  by_cases h : kind < 1 ∨ 4 < kind
  · unfold rangeS keys_Range.f
    rw [if_pos h]
    by_cases h1 : kind < 1
    · exact ev_pos h1 (Ev.step (fun _ => keys_Range.j0.eq_2 ..) (ev_pos rfl (Ev.now _)))
    · exact ev_neg h1 (Ev.step (fun _ => keys_Range.j0.eq_2 ..) (ev_pos (decide_eq_true (by omega)) (Ev.now _)))
  · obtain rfl | rfl | rfl | rfl : kind = 1 ∨ kind = 2 ∨ kind = 3 ∨ kind = 4 := by omega
    all_goals exact Ev.of (fun k => keys_Range.mono _ k) (k := 40) (by decide +kernel)
theorem ref_range_ev (kind : Int) : Ev (fun k => millhandref22_Range.f k kind) (rangeS kind) := by
  by_cases h : kind < 1 ∨ 4 < kind
  · unfold rangeS millhandref22_Range.f
    rw [if_pos h]
    by_cases h1 : kind < 1
    · exact ev_pos h1 (Ev.step (fun _ => millhandref22_Range.j0.eq_2 ..) (ev_pos rfl (Ev.now _)))
    · exact ev_neg h1 (Ev.step (fun _ => millhandref22_Range.j0.eq_2 ..) (ev_pos (decide_eq_true (by omega)) (Ev.now _)))
  · obtain rfl | rfl | rfl | rfl : kind = 1 ∨ kind = 2 ∨ kind = 3 ∨ kind = 4 := by omega
    all_goals exact Ev.of (fun k => millhandref22_Range.mono _ k) (k := 40) (by decide +kernel)
theorem ref_key_ev (l : List PartT) : Ev (fun k => millhandref22_key.f k l) (keyS l).1 := by
  unfold millhandref22_key.f
  exact Ev.bind (ref_Key_ev l) (Ev.now _)
theorem let4 : letP 4 = ⟨true, 0, ⟨#[114]⟩⟩ := by simp [letP, letU]
theorem let1 : letP 1 = ⟨true, 0, ⟨#[101]⟩⟩ := by simp [letP, letU]
theorem let3 : letP 3 = ⟨true, 0, ⟨#[107]⟩⟩ := by simp [letP, letU]
theorem let2 : letP 2 = ⟨true, 0, ⟨#[104]⟩⟩ := by simp [letP, letU]
theorem ref_run_ev (n : Int) : Ev (fun k => millhandref22_Run.f k n) (runS n) := by
  unfold millhandref22_Run.f runS
  by_cases h0 : n < 0
  · rw [if_pos (Or.inl h0)]; exact ev_pos h0 (Ev.now _)
  · by_cases h1 : 1099511627776 < n
    · rw [if_pos (Or.inr h1)]; exact ev_neg h0 (ev_pos h1 (Ev.now _))
    · rw [if_neg (by omega), u64w_in (by omega) (by omega)]
      refine ev_neg h0 (ev_neg (by omega) (Ev.bind (ref_key_ev _) (ev_some ?_)))
      rw [← let4]
      rfl
theorem ref_event_ev (n : Int) : Ev (fun k => millhandref22_Event.f k n) (eventS n) := by
  unfold millhandref22_Event.f eventS
  by_cases h0 : n < 1
  · rw [if_pos (Or.inl h0)]; exact ev_pos h0 (Ev.now _)
  · by_cases h1 : 1099511627776 < n
    · rw [if_pos (Or.inr h1)]; exact ev_neg h0 (ev_pos h1 (Ev.now _))
    · rw [if_neg (by omega), u64w_in (by omega) (by omega)]
      refine ev_neg h0 (ev_neg (by omega) (Ev.bind (ref_key_ev _) (ev_some ?_)))
      rw [← let1]
      rfl
theorem ref_name_ev (s : ByteArray) : Ev (fun k => millhandref22_Name.f k s) (nameS s) := by
  unfold millhandref22_Name.f nameS
  by_cases h0 : s.size < 1
  · rw [if_pos (Or.inl h0)]; exact ev_pos (by omega) (Ev.now _)
  · by_cases h1 : 24 < s.size
    · rw [if_pos (Or.inr h1)]; exact ev_neg (by omega) (ev_pos (by omega) (Ev.now _))
    · rw [if_neg (by omega)]
      refine ev_neg (by omega) (ev_neg (by omega) (Ev.bind (ref_key_ev _) (ev_some ?_)))
      rw [← let3]
      rfl
theorem keys_Head_ev : Ev (fun k => keys_Head.f k) (keyOf 2 []) := by
  unfold keys_Head.f
  refine Ev.bind (made_ev 2 (by omega) [] (by simp)) ?_
  rw [made_head]
  exact Ev.now _
theorem ref_head_ev : Ev (fun k => millhandref22_Head.f k) (keyOf 2 []) := by
  rw [← made_head]
  unfold millhandref22_Head.f millhandref22_alone.f
  refine Ev.bind (a := madeS 2 []) ?_ (Ev.now _)
  have e : millhandref22_letter.f 2 = some ⟨#[104]⟩ := rfl
  simp only [e, Option.bind_some]
  refine Ev.bind (ref_key_ev _) (ev_some ?_)
  rw [← let2]
  rfl
def refK (l : List PartT) : Int × Int × ByteArray × Int :=
  if l.length ≠ 2 then badS else if (rd_T50 l 0).f0 = false then badS
  else if (rd_T50 l 0).f2.toList = [107] ∧ nameOk l = true then (3, 0, (rd_T50 l 1).f2, 0)
  else if (rd_T50 l 1).f0 = true ∨ 1099511627776 < (rd_T50 l 1).f1 then badS
  else if (rd_T50 l 0).f2.toList = [101] ∧ 0 < (rd_T50 l 1).f1 then (1, wrap64 (rd_T50 l 1).f1, ⟨#[]⟩, 0)
  else if (rd_T50 l 0).f2.toList = [114] then (4, wrap64 (rd_T50 l 1).f1, ⟨#[]⟩, 0) else badS
theorem refK_j0 (l : List PartT) (h2 : l.length = 2) : Ev (fun k => millhandref22_Of.j0 k l (!((rd_T50 l 0).f0))) (refK l) := by
  obtain ⟨a, q, rfl⟩ : ∃ a q, l = [a, q] := by
    match l, h2 with
    | [a, q], _ => exact ⟨a, q, rfl⟩
  unfold refK
  rw [rd_zero, rd_two]
  rw [if_neg (by simp)]
  refine Ev.step (fun _ => millhandref22_Of.j0.eq_2 ..) ?_
  rw [rd_zero, rd_two]
  by_cases h0 : a.f0 = false
  · rw [if_pos h0, h0]
    exact ev_pos rfl (Ev.now _)
  · rw [if_neg h0]
    have h0' : a.f0 = true := by simpa using h0
    rw [h0']
    refine ev_neg (by decide) (ev_pos (by simp) ?_)
    have j3 : ∀ b : Bool, Ev (fun k => millhandref22_Of.j3 k [a, q] b) (if b = true then (1, wrap64 q.f1, ⟨#[]⟩, 0) else if a.f2.toList = [114] then (4, wrap64 q.f1, ⟨#[]⟩, 0) else badS) := by
      intro b
      refine Ev.step (fun _ => millhandref22_Of.j3.eq_2 ..) ?_
      rw [rd_zero, rd_two]
      cases b with
      | true => exact ev_pos rfl (ev_pos (by simp) (Ev.now _))
      | false =>
        refine ev_neg (by decide) (ev_pos (by simp) ?_)
        rw [if_neg (show ¬ (false = true) by decide)]
        by_cases h : a.f2.toList = [114]
        · rw [if_pos h, if_pos h]
          exact ev_pos (by simp) (Ev.now _)
        · rw [if_neg h, if_neg h]
          exact Ev.now _
    have j1 : Ev (fun k => millhandref22_Of.j1 k [a, q] false) (if q.f0 = true ∨ 1099511627776 < q.f1 then badS else if a.f2.toList = [101] ∧ 0 < q.f1 then (1, wrap64 q.f1, ⟨#[]⟩, 0) else if a.f2.toList = [114] then (4, wrap64 q.f1, ⟨#[]⟩, 0) else badS) := by
      refine Ev.step (fun _ => millhandref22_Of.j1.eq_2 ..) (ev_neg (by decide) (ev_pos (by simp) ?_))
      rw [rd_two]
      by_cases q0 : q.f0 = true
      · rw [if_pos (Or.inl q0)]
        exact ev_pos q0 (Ev.step (fun _ => millhandref22_Of.j2.eq_2 ..) (ev_pos rfl (Ev.now _)))
      · refine ev_neg q0 (Ev.step (fun _ => millhandref22_Of.j2.eq_2 ..) ?_)
        by_cases q1 : 1099511627776 < q.f1
        · rw [if_pos (Or.inr q1)]
          exact ev_pos (decide_eq_true q1) (Ev.now _)
        · rw [if_neg (by rintro (h | h); exact q0 h; exact q1 h)]
          refine ev_neg (by simpa using q1) (ev_pos (by simp) ?_)
          rw [rd_zero, rd_two]
          by_cases h : a.f2.toList = [101]
          · refine ev_pos h (ev_pos (by simp) ?_)
            refine ev_eq (j3 _) ?_
            by_cases hq : 0 < q.f1
            · rw [if_pos (decide_eq_true hq), if_pos ⟨h, hq⟩]
            · rw [if_neg (by simpa using hq), if_neg (show ¬ (a.f2.toList = [101] ∧ 0 < q.f1) from fun e => hq e.2)]
          · refine ev_neg h (ev_eq (j3 _) ?_)
            rw [if_neg (by decide), if_neg (show ¬ (a.f2.toList = [101] ∧ 0 < q.f1) from fun e => h e.1)]
    by_cases h3 : a.f2.toList = [107]
    · refine ev_pos h3 (ev_pos (by simp) ?_)
      by_cases q0 : q.f0 = true
      · refine ev_pos q0 ?_
        by_cases q1 : 1 ≤ q.f2.size
        · refine ev_pos (by omega) ?_
          by_cases q2 : q.f2.size ≤ 24
          · rw [if_pos ⟨h3, show nameOk [a, q] = true by simp [nameOk, q0, q1, q2]⟩]
            refine Ev.step (fun _ => millhandref22_Of.j1.eq_2 ..) (ev_pos (decide_eq_true (by omega)) (ev_pos (by simp) ?_))
            rw [rd_two]
            exact Ev.now _
          · rw [if_neg (show ¬ (a.f2.toList = [107] ∧ nameOk [a, q] = true) by simp [nameOk, q2]), decide_eq_false (by omega)]
            exact j1
        · rw [if_neg (show ¬ (a.f2.toList = [107] ∧ nameOk [a, q] = true) by simp [nameOk]; intros; omega)]
          exact ev_neg (by omega) j1
      · rw [if_neg (show ¬ (a.f2.toList = [107] ∧ nameOk [a, q] = true) by simp [nameOk, q0])]
        exact ev_neg q0 j1
    · rw [if_neg (show ¬ (a.f2.toList = [107] ∧ nameOk [a, q] = true) from fun e => h3 e.1)]
      exact ev_neg h3 j1
theorem refK_kind (l : List PartT) (h2 : l.length = 2) (hok : ∀ p ∈ l, okP p) : refK l = kindS l := by
  obtain ⟨a, q, rfl⟩ : ∃ a q, l = [a, q] := by
    match l, h2 with
    | [a, q], _ => exact ⟨a, q, rfl⟩
  have hq := hok q (by simp)
  unfold refK kindS
  rw [rd_zero, rd_two, if_neg (by simp)]
  by_cases h0 : a.f0 = false
  · rw [if_pos h0, if_pos h0]
  · rw [if_neg h0, if_neg h0, numS_two, numS_two]
    have hq0 : q.f0 = true ∨ (q.f0 = false ∧ 0 ≤ q.f1 ∧ q.f1 < 18446744073709551616) := by
      unfold okP at hq
      by_cases h : q.f0 = true
      · exact Or.inl h
      · rw [if_neg h] at hq
        exact Or.inr ⟨by simpa using h, hq.2⟩
    have nt : q.f0 = false → nameOk [a, q] = false := by
      intro h
      simp [nameOk, h]
    by_cases h1 : a.f2.toList = [101]
    · rw [if_neg (show ¬ (a.f2.toList = [107] ∧ nameOk [a, q] = true) by rw [h1]; simp), if_pos h1]
      rcases hq0 with h | ⟨h, h4, h5⟩
      · rw [if_pos (Or.inl h), if_neg (show ¬ (q.f0 = false ∧ 1 ≤ q.f1 ∧ q.f1 ≤ 1099511627776) by rw [h]; simp)]
      · by_cases h6 : 1099511627776 < q.f1
        · rw [if_pos (Or.inr h6), if_neg (show ¬ (q.f0 = false ∧ 1 ≤ q.f1 ∧ q.f1 ≤ 1099511627776) by omega)]
        · rw [if_neg (show ¬ (q.f0 = true ∨ 1099511627776 < q.f1) by rw [h]; simp; omega)]
          by_cases h7 : 0 < q.f1
          · rw [if_pos ⟨h1, h7⟩, if_pos (show q.f0 = false ∧ 1 ≤ q.f1 ∧ q.f1 ≤ 1099511627776 from ⟨h, by omega, by omega⟩), w64 (by omega) (by omega)]
          · rw [if_neg (show ¬ (a.f2.toList = [101] ∧ 0 < q.f1) from fun e => h7 e.2), if_neg (show ¬ a.f2.toList = [114] by rw [h1]; simp), if_neg (show ¬ (q.f0 = false ∧ 1 ≤ q.f1 ∧ q.f1 ≤ 1099511627776) by omega)]
    · rw [if_neg h1]
      have n1 : ¬ (a.f2.toList = [101] ∧ 0 < q.f1) := fun e => h1 e.1
      by_cases k2 : a.f2.toList = [104]
      · rw [if_pos k2, if_neg (show ¬ (a.f2.toList = [107] ∧ nameOk [a, q] = true) by rw [k2]; simp), if_neg n1, if_neg (show ¬ a.f2.toList = [114] by rw [k2]; simp), if_neg (show ¬ [a, q].length = 1 by simp)]
        simp
      · rw [if_neg k2]
        by_cases k3 : a.f2.toList = [107]
        · rw [if_pos k3]
          by_cases hn : nameOk [a, q] = true
          · rw [if_pos ⟨k3, hn⟩, if_pos hn]
          · rw [if_neg (show ¬ (a.f2.toList = [107] ∧ nameOk [a, q] = true) from fun e => hn e.2), if_neg hn, if_neg n1, if_neg (show ¬ a.f2.toList = [114] by rw [k3]; simp)]
            simp
        · rw [if_neg (show ¬ (a.f2.toList = [107] ∧ nameOk [a, q] = true) from fun e => k3 e.1), if_neg k3, if_neg n1]
          by_cases k4 : a.f2.toList = [114]
          · rw [if_pos k4, if_pos k4]
            rcases hq0 with h | ⟨h, h4, h5⟩
            · rw [if_pos (Or.inl h), if_neg (show ¬ (q.f0 = false ∧ 0 ≤ q.f1 ∧ q.f1 ≤ 1099511627776) by rw [h]; simp)]
            · by_cases h6 : 1099511627776 < q.f1
              · rw [if_pos (Or.inr h6), if_neg (show ¬ (q.f0 = false ∧ 0 ≤ q.f1 ∧ q.f1 ≤ 1099511627776) by omega)]
              · rw [if_neg (show ¬ (q.f0 = true ∨ 1099511627776 < q.f1) by rw [h]; simp; omega), if_pos (show q.f0 = false ∧ 0 ≤ q.f1 ∧ q.f1 ≤ 1099511627776 from ⟨h, h4, by omega⟩), w64 (by omega) (by omega)]
          · rw [if_neg k4, if_neg k4]
            simp
theorem kind_other (l : List PartT) (h2 : l.length ≠ 2) (hok : ∀ p ∈ l, okP p) : kindS l = badS ∨ l = [letP 2] := by
  unfold kindS
  have n1 : ∀ least, numS l least = none := by
    intro least
    match l, h2 with
    | [], _ => rfl
    | [a], _ => rfl
    | [a, b], h => exact absurd rfl h
    | a :: b :: c :: l, _ => rfl
  have n2 : nameOk l = false := by
    match l, h2 with
    | [], _ => rfl
    | [a], _ => rfl
    | [a, b], h => exact absurd rfl h
    | a :: b :: c :: l, _ => rfl
  rw [n1, n1, n2]
  by_cases h0 : (rd_T50 l 0).f0 = false
  · rw [if_pos h0]; exact Or.inl rfl
  · rw [if_neg h0]
    by_cases h1 : (rd_T50 l 0).f2.toList = [104]
    · by_cases hl : l.length = 1
      · right
        obtain ⟨a, rfl⟩ : ∃ a, l = [a] := by
          match l, hl with
          | [a], _ => exact ⟨a, rfl⟩
        rw [rd_zero] at h0 h1
        rw [let_only a 2 (hok a (by simp)) h0 h1]
      · rw [if_neg (show ¬ (rd_T50 l 0).f2.toList = [101] by rw [h1]; simp), if_pos h1, if_neg hl]
        exact Or.inl rfl
    · rw [if_neg h1]
      simp
theorem ref_Of_ev (s : ByteArray) : Ev (fun k => millhandref22_Of.f k s) (ofS s) := by
  unfold millhandref22_Of.f
  refine Ev.bind ref_head_ev ?_
  by_cases hh : s.toList = (keyOf 2 []).toList
  · have e : s = keyOf 2 [] := by
      rw [ByteArray.toList_eq, ByteArray.toList_eq] at hh
      rw [← ba_eta s, hh, ba_eta]
    rw [e, of_head]
    exact ev_pos rfl (Ev.now _)
  · refine ev_neg hh (Ev.bind (ref_Parts_ev s) ?_)
    unfold ofS
    by_cases h : (partsS s).2 = 0
    · obtain ⟨hs, hok, _, hl, _, _⟩ := parts_ok s h
      rw [if_pos h]
      refine ev_pos h ?_
      by_cases h2 : (partsS s).1.length = 2
      · refine ev_pos (by omega) (ev_pos (by omega) (ev_eq (refK_j0 _ h2) (refK_kind _ h2 hok)))
      · refine ev_neg (by omega) (Ev.step (fun _ => millhandref22_Of.j0.eq_2 ..) (ev_pos rfl (ev_some ?_)))
        rcases kind_other _ h2 hok with e | e
        · rw [e]; rfl
        · rw [e] at hs
          exact absurd (show s.toList = (keyOf 2 []).toList by rw [ByteArray.toList_eq, ByteArray.toList_eq, hs]; rfl) hh
    · rw [if_neg h]
      exact ev_neg h (Ev.step (fun _ => millhandref22_Of.j0.eq_2 ..) (ev_pos rfl (Ev.now _)))
theorem KeysTells_ev (n : Int) (s : ByteArray) (kind : Int) : Ev (fun k => millhandlaw22_KeysTells.f k n s kind) true := by
  unfold millhandlaw22_KeysTells.f
  by_cases h5 : (s.size : Int) > 5000
  · exact ev_pos h5 (Ev.now _)
  · refine ev_neg h5 (Ev.bind (run_ev n) (Ev.bind (ref_run_ev n) (Ev.bind (event_ev n) (Ev.bind (ref_event_ev n) (Ev.bind (name_ev s) (Ev.bind (ref_name_ev s) (Ev.bind (keys_Of_ev s) (Ev.bind (ref_Of_ev s) (Ev.bind (range_ev kind) (Ev.bind (ref_range_ev kind) ?_))))))))))
    refine ev_pos rfl (ev_pos rfl (ev_pos rfl (ev_pos rfl (ev_pos rfl (ev_pos rfl (ev_pos rfl (ev_pos rfl (ev_pos rfl (ev_pos rfl (ev_pos rfl (ev_pos rfl (ev_pos rfl (Ev.bind keys_Head_ev (Ev.bind ref_head_ev (ev_some (by simp))))))))))))))))
theorem KeysTells_walk (w : World) (a0 : Int) (g0_ : (Lit.int .i64 a0).wf = true) (a1 : ByteArray) (g1_ : a1.size ≤ 140737488351232) (a2 : Int) (g2_ : (Lit.int .u8 a2).wf = true) :
    Calls Tryd.prog 11 #[.int .i64 a0, .string a1, .int .u8 a2] w fun e w' => e = .returned (.bool true) ∧ Below w.heap.size w w' := by
  obtain ⟨k, h⟩ := (KeysTells_ev a0 a1 a2).rounds
  exact millhandlaw22_KeysTells.calls k a0 a1 a2 true w h rfl
end Go.Proofs.YtagdmgjdhbmaiaaDoor.R

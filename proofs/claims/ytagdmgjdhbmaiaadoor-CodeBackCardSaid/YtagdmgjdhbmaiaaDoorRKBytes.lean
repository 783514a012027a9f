/- Parts as bytes. -/
import Derived.Test.YtagdmgjdhbmaiaaDoorRx3
import Derived.Test.YtagdmgjdhbmaiaaDoorPlain
namespace Go.Proofs.YtagdmgjdhbmaiaaDoor.R
open Go.RowKit Go.Proofs.YtagdmgjdhbmaiaaDoorW.PrintWords Go.Proofs.YtagdmgjdhbmaiaaDoorW.PrintLast Go.Proofs.YtagdmgjdhbmaiaaDoorW.PrintMore Go.Proofs.YtagdmgjdhbmaiaaDoor.Plain
set_option linter.unusedVariables false

/-! ### parts as bytes -/
abbrev PartT := S50
def be8 (n : Int) : List Int := [n / 72057594037927936 % 256, n / 281474976710656 % 256, n / 1099511627776 % 256, n / 4294967296 % 256, n / 16777216 % 256, n / 65536 % 256, n / 256 % 256, n % 256]
def partL (p : PartT) : List Int := if p.f0 = true then (2 :: (bytesOf (Esc.escB p.f2))) ++ [0, 0] else 1 :: be8 p.f1
def badP (p : PartT) : Bool := if p.f0 = true then decide (p.f1 ≠ 0) else !(p.f2.toList == [])
def bigP (p : PartT) : Bool := decide (64 < p.f2.size)
theorem rd_part (l : List PartT) (i : Nat) (h : i < l.length) : rd_T50 l (i : Int) = l[i] := by
  simp [rd_T50, List.getD_eq_getElem?_getD, List.getElem?_eq_getElem h]
def keyL (l : List PartT) : List Int := l.flatMap partL
def keyEnd (b : List Int) : ByteArray × Int := if 64 < b.length then (⟨#[]⟩, 3) else (strOfNums b, 0)
def keyS (l : List PartT) : ByteArray × Int :=
  if l.length = 0 ∨ 8 < l.length then (⟨#[]⟩, 4) else if l.any badP then (⟨#[]⟩, 8) else if l.any bigP then (⟨#[]⟩, 3) else keyEnd (keyL l)
theorem partL_length (p : PartT) : (partL p).length ≤ 2 * p.f2.size + 9 := by
  unfold partL
  split
  · simp only [List.length_append, List.length_cons, List.length_nil, bytesOf_length]
    have h1 : (Esc.escB p.f2).size = (Esc.esc p.f2.data.toList).length := by rw [Lib.size_eq]; rfl
    have h2 := Esc.esc_length p.f2.data.toList
    have h3 := Esc.count_le p.f2.data.toList
    have h4 : p.f2.data.toList.length = p.f2.size := (Lib.size_eq _).symm
    omega
  · simp [be8]
theorem ev_some' {α : Type} {o : Option α} {r : α} (h : o = some r) : Ev (fun _ => o) r := by rw [h]; exact Ev.now r
theorem key_l2 (l : List PartT) (m j : Int) (b0 : Bool) (x : Int) (s : ByteArray) (r : ByteArray × Int) (b : List Int) (hb : b.length ≤ 100000)
    (hr : Ev (fun k => code_Key.l1 k (b ++ be8 x) l m (wrap64 (j + 1))) r) : Ev (fun k => code_Key.l2 k b 56 l m j b0 x s) r := by
  have st : ∀ (b : List Int) (i : Int), b.length ≤ 200000 → 0 ≤ i → i ≤ 56 → Ev (fun k => code_Key.l2 k (b ++ [shr .u64 x i % 256]) (i - 8) l m j b0 x s) r → Ev (fun k => code_Key.l2 k b i l m j b0 x s) r := by
    intro b i hb h0 h1 hr
    refine Ev.step (fun _ => code_Key.l2.eq_2 ..) (ev_pos (by omega) (ev_pos h0 (ev_pos (by omega) ?_)))
    rw [w64 (by omega) (by omega)]
    exact hr
  have e : b ++ be8 x = b ++ [shr .u64 x 56 % 256] ++ [shr .u64 x 48 % 256] ++ [shr .u64 x 40 % 256] ++ [shr .u64 x 32 % 256] ++ [shr .u64 x 24 % 256] ++ [shr .u64 x 16 % 256] ++ [shr .u64 x 8 % 256] ++ [shr .u64 x 0 % 256] := by
    simp [be8, shr, IntKind.bits]
  rw [e] at hr
  refine st b 56 (by omega) (by omega) (by omega) (st _ 48 ?_ (by omega) (by omega) (st _ 40 ?_ (by omega) (by omega) (st _ 32 ?_ (by omega) (by omega) (st _ 24 ?_ (by omega) (by omega) (st _ 16 ?_ (by omega) (by omega) (st _ 8 ?_ (by omega) (by omega) (st _ 0 ?_ (by omega) (by omega) ?_)))))))
  case refine_8 => exact Ev.step (fun _ => code_Key.l2.eq_2 ..) (ev_neg (by omega) hr)
  all_goals (simp only [List.length_append, List.length_cons, List.length_nil]; omega)
theorem key_l1 (l : List PartT) (hl : l.length ≤ 8) (hg : ∀ p ∈ l, badP p = false) : ∀ (d i : Nat) (b : List Int), i + d = l.length → b.length ≤ 1000 * i →
    Ev (fun k => code_Key.l1 k b l (l.length : Int) (i : Int)) (if (l.drop i).any bigP then (⟨#[]⟩, 3) else keyEnd (b ++ keyL (l.drop i)))
  | 0, i, b, h, hb => by
    have e : l.drop i = [] := List.drop_eq_nil_of_le (by omega)
    rw [e]
    simp only [List.any_nil, Bool.false_eq_true, if_false, keyL, List.flatMap_nil, List.append_nil, keyEnd]
    refine Ev.step (fun _ => code_Key.l1.eq_2 ..) (ev_neg (by omega) ?_)
    by_cases h6 : 64 < b.length
    · rw [if_pos h6]
      exact ev_pos (by omega) (Ev.now _)
    · rw [if_neg h6]
      exact ev_neg (by omega) (Ev.now _)
  | d + 1, i, b, h, hb => by
    have hi : i < l.length := by omega
    have e : l.drop i = l[i] :: l.drop (i + 1) := List.drop_eq_getElem_cons hi
    have hp := hg l[i] (List.getElem_mem hi)
    refine Ev.step (fun _ => code_Key.l1.eq_2 ..) (ev_pos (by omega) (ev_pos (by omega) (ev_pos (by omega) ?_)))
    rw [rd_part l i hi, e, List.any_cons]
    by_cases h6 : 64 < l[i].f2.size
    · rw [show bigP l[i] = true from decide_eq_true h6, Bool.true_or, if_pos rfl]
      exact ev_pos (by omega) (Ev.now _)
    · rw [show bigP l[i] = false from decide_eq_false h6, Bool.false_or]
      have hlen := partL_length l[i]
      have ih := key_l1 l hl hg d (i + 1) (b ++ partL l[i]) (by omega) (by rw [List.length_append]; omega)
      have ek : keyL (l[i] :: l.drop (i + 1)) = partL l[i] ++ keyL (l.drop (i + 1)) := by simp only [keyL, List.flatMap_cons]
      rw [ek, ← List.append_assoc]
      have hw : wrap64 ((i : Int) + 1) = ((i + 1 : Nat) : Int) := by rw [w64 (by omega) (by omega)]; omega
      refine ev_neg (by omega) ?_
      by_cases ht : l[i].f0 = true
      · have hra : strings_ReplaceAll.f l[i].f2 ⟨#[0]⟩ ⟨#[0, 255]⟩ = some (Esc.escB l[i].f2) := by
          unfold strings_ReplaceAll.f
          rw [if_pos ⟨rfl, rfl, by omega⟩]
        simp only [hra, Option.bind_some]
        have e2 : (b ++ [2] ++ bytesOf (Esc.escB l[i].f2)) ++ [0, 0] = b ++ partL l[i] := by
          unfold partL
          rw [if_pos ht]
          simp
        have e3 := congrArg List.length e2
        simp only [List.length_append, List.length_cons, List.length_nil, bytesOf_length] at e3
        refine ev_pos ht (ev_pos (by omega) (ev_pos (by simp only [List.length_append, List.length_cons, List.length_nil]; omega) (ev_pos (by simp only [List.length_append, List.length_cons, List.length_nil, bytesOf_length]; omega) ?_)))
        rw [hw, e2]
        exact ih
      · refine ev_neg ht (ev_pos (by omega) ?_)
        refine key_l2 _ _ _ _ _ _ _ _ (by simp only [List.length_append, List.length_cons, List.length_nil]; omega) ?_
        have e2 : b ++ [1] ++ be8 l[i].f1 = b ++ partL l[i] := by
          unfold partL
          rw [if_neg ht]
          simp
        rw [hw, e2]
        exact ih
theorem key_l0 (l : List PartT) (hl : l.length ≤ 8) : ∀ (d i : Nat), i + d = l.length → (∀ p ∈ l.take i, badP p = false) →
    Ev (fun k => code_Key.l0 k l l (l.length : Int) (i : Int)) (if (l.drop i).any badP then (⟨#[]⟩, 8) else if l.any bigP then (⟨#[]⟩, 3) else keyEnd (keyL l))
  | 0, i, h, hg => by
    have e : l.drop i = [] := List.drop_eq_nil_of_le (by omega)
    rw [e]
    simp only [List.any_nil, Bool.false_eq_true, if_false]
    refine Ev.step (fun _ => code_Key.l0.eq_2 ..) (ev_neg (by omega) ?_)
    have := key_l1 l hl (by rw [List.take_of_length_le (by omega)] at hg; exact hg) l.length 0 [] (by omega) (by simp)
    simpa using this
  | d + 1, i, h, hg => by
    have hi : i < l.length := by omega
    have e : l.drop i = l[i] :: l.drop (i + 1) := List.drop_eq_getElem_cons hi
    refine Ev.step (fun _ => code_Key.l0.eq_2 ..) (ev_pos (by omega) (ev_pos (by omega) (ev_pos (by omega) ?_)))
    have hw : wrap64 ((i : Int) + 1) = ((i + 1 : Nat) : Int) := by rw [w64 (by omega) (by omega)]; omega
    rw [rd_part l i hi, e, List.any_cons, hw]
    have go : badP l[i] = false → Ev (fun k => code_Key.l0 k l l (l.length : Int) ((i + 1 : Nat) : Int)) (if (badP l[i] || (l.drop (i + 1)).any badP) then (⟨#[]⟩, 8) else if l.any bigP then (⟨#[]⟩, 3) else keyEnd (keyL l)) := by
      intro hb
      rw [hb, Bool.false_or]
      refine key_l0 l hl d (i + 1) (by omega) ?_
      intro p hp
      rw [List.take_add_one, List.getElem?_eq_getElem hi] at hp
      rcases List.mem_append.mp hp with hp | hp
      · exact hg p hp
      · simp at hp; rw [hp]; exact hb
    by_cases ht : l[i].f0 = true
    · refine ev_pos ht ?_
      by_cases h0 : l[i].f1 = 0
      · exact ev_pos h0 (ev_pos ht (go (by unfold badP; rw [if_pos ht]; simp [h0])))
      · rw [show badP l[i] = true by unfold badP; rw [if_pos ht]; simp [h0], Bool.true_or, if_pos rfl]
        exact ev_neg h0 (Ev.now _)
    · refine ev_neg ht (ev_neg ht ?_)
      by_cases h0 : l[i].f2.toList = []
      · exact ev_pos h0 (go (by unfold badP; rw [if_neg ht, h0]; rfl))
      · rw [show badP l[i] = true by unfold badP; rw [if_neg ht]; simpa using h0, Bool.true_or, if_pos rfl]
        exact ev_neg h0 (Ev.now _)
theorem code_Key_ev (l : List PartT) : Ev (fun k => code_Key.f k l) (keyS l) := by
  unfold code_Key.f keyS
  by_cases h0 : l.length = 0
  · rw [if_pos (Or.inl h0)]
    exact ev_pos (by omega) (Ev.step (fun _ => code_Key.j0.eq_2 ..) (ev_pos rfl (Ev.now _)))
  · refine ev_neg (by omega) ?_
    by_cases h8 : 8 < l.length
    · rw [if_pos (Or.inr h8)]
      exact Ev.step (fun _ => code_Key.j0.eq_2 ..) (ev_pos (decide_eq_true (by omega)) (Ev.now _))
    · rw [if_neg (by omega)]
      refine Ev.step (fun _ => code_Key.j0.eq_2 ..) (ev_neg (by simp; omega) ?_)
      have := key_l0 l (by omega) l.length 0 (by omega) (by simp)
      simpa using this
end Go.Proofs.YtagdmgjdhbmaiaaDoor.R

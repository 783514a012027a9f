/- What specs' functions come to, in plain words. -/
import Derived.Test.YtoplhlacdjlidaaRx4
import Derived.Test.YtoplhlacdjlidaaRx5
import Derived.Test.YtoplhlacdjlidaaRx6
import Derived.Test.YtoplhlacdjlidaaRx7
import Derived.Test.YtoplhlacdjlidaaRx8
import Derived.Laws.BitsLemmas
import Derived.Test.YtoplhlacdjlidaaRDQ
namespace Go.Proofs.Ytoplhlacdjlidaa.R
open Go.RowKit Go.Proofs.YtoplhlacdjlidaaW.PrintWords Go.Proofs.YtoplhlacdjlidaaW.PrintLast Go.Proofs.YtoplhlacdjlidaaW.PrintMore Go.Proofs.Ytoplhlacdjlidaa.Plain
set_option linter.unusedVariables false
set_option linter.unusedSimpArgs false
theorem shaped_l0 (i many : Int) (x : List Int) (hx : x.length ≤ 1099511627776) : ∀ (d j : Nat) (last : Int), j + d = x.length → Ev (fun k => dag_shaped.l0 k i many last x (x.length : Int) (j : Int)) (needsOk i many last (x.drop j))
  | 0, j, last, h => by
    rw [List.drop_eq_nil_of_le (by omega)]
    exact Ev.step (fun _ => dag_shaped.l0.eq_2 ..) (ev_neg (by omega) (Ev.now _))
  | d + 1, j, last, h => by
    have hj : j < x.length := by omega
    refine Ev.step (fun _ => dag_shaped.l0.eq_2 ..) (ev_pos (by omega) (ev_pos (by omega) (ev_pos (by omega) ?_)))
    rw [rd_int x j hj, List.drop_eq_getElem_cons hj, needsOk]
    by_cases h1 : x[j] ≤ last
    · rw [decide_eq_false (show ¬ last < x[j] by omega), Bool.false_and]
      exact ev_pos h1 (Ev.now _)
    · rw [decide_eq_true (show last < x[j] by omega), Bool.true_and]
      refine ev_neg h1 ?_
      by_cases h2 : x[j] ≥ many
      · rw [decide_eq_false (show ¬ x[j] < many by omega), Bool.false_and]
        exact ev_pos h2 (Ev.now _)
      · rw [decide_eq_true (show x[j] < many by omega), Bool.true_and]
        refine ev_neg h2 ?_
        by_cases h3 : x[j] = i
        · rw [decide_eq_false (show ¬ x[j] ≠ i from fun e => e h3), Bool.false_and]
          exact ev_pos h3 (Ev.now _)
        · rw [decide_eq_true (show x[j] ≠ i from h3), Bool.true_and]
          refine ev_neg h3 ?_
          rw [w64 (by omega) (by omega), show (j : Int) + 1 = ((j + 1 : Nat) : Int) by omega]
          exact shaped_l0 i many x hx d (j + 1) x[j] (by omega)
theorem shaped_ev (i many : Int) (x : NodeT) (hx : x.f0.length ≤ 1099511627776) : Ev (fun k => dag_shaped.f k i many x.f0 x.f1 x.f2) (nodeOk i many x) := by
  unfold dag_shaped.f nodeOk
  have bad : boundsOk x = false → Ev (fun k => dag_shaped.j0 k i many true x.f0 x.f1 x.f2) (boundsOk x && needsOk i many (-1) x.f0) := by
    intro h
    rw [h, Bool.false_and]
    exact Ev.step (fun _ => dag_shaped.j0.eq_2 ..) (ev_pos rfl (Ev.now _))
  by_cases h1 : x.f1 < 1
  · exact ev_pos h1 (bad (decide_eq_false (by omega)))
  · refine ev_neg h1 ?_
    by_cases h2 : x.f1 > 5
    · exact ev_pos h2 (bad (decide_eq_false (by omega)))
    · refine ev_neg h2 ?_
      by_cases h3 : x.f2 < 0
      · exact ev_pos h3 (bad (decide_eq_false (by omega)))
      · refine ev_neg h3 ?_
        by_cases h4 : x.f2 > 1048576
        · rw [decide_eq_true h4]
          exact bad (decide_eq_false (by omega))
        · rw [decide_eq_false h4, show boundsOk x = true from decide_eq_true (by omega), Bool.true_and]
          have := shaped_l0 i many x.f0 hx x.f0.length 0 (-1) (by omega)
          exact Ev.step (fun _ => dag_shaped.j0.eq_2 ..) (ev_neg (by decide) this)
/-! ### which specs may be -/
theorem check_l0 (l : List NodeT) (hf : fitS l) (hm : manyOk l = true) : ∀ (d i : Nat), i + d = l.length → (shapeFrom (l.length : Int) i (l.drop i) = shapeS l) → Ev (fun k => dag_Check.l0 k (l.length : Int) l (l.length : Int) (i : Int)) (checkS l)
  | 0, i, h, h1 => by
    have hs : shapeS l = true := by rw [← h1, List.drop_eq_nil_of_le (by omega)]; rfl
    refine Ev.step (fun _ => dag_Check.l0.eq_2 ..) (ev_neg (by omega) (ev_pos (by rw [hm, hs]; rfl) (ev_some ?_)))
    unfold checkS mayS
    rw [hm, hs]
    cases cycS l <;> rfl
  | d + 1, i, h, h1 => by
    have hfl := hf.1
    have hi : i < l.length := by omega
    rw [List.drop_eq_getElem_cons hi, shapeFrom] at h1
    refine Ev.step (fun _ => dag_Check.l0.eq_2 ..) (ev_pos (by omega) (ev_pos (by omega) (ev_pos (by omega) ?_)))
    rw [rd_node l i hi]
    refine Ev.bind (shaped_ev (i : Int) (l.length : Int) l[i] (hf.2 _ (List.getElem_mem hi))) ?_
    cases hb : nodeOk (i : Int) (l.length : Int) l[i] with
    | false =>
      have hs : shapeS l = false := by rw [← h1, hb]; rfl
      refine ev_neg (by decide) (ev_some ?_)
      unfold checkS mayS
      rw [hs, Bool.false_and, Bool.and_false]
      rfl
    | true =>
      rw [hb, Bool.true_and] at h1
      refine ev_pos rfl ?_
      rw [w64 (by omega) (by omega), show (i : Int) + 1 = ((i + 1 : Nat) : Int) by omega]
      exact check_l0 l hf hm d (i + 1) (by omega) h1
theorem check_ev (l : List NodeT) (hf : fitS l) : Ev (fun k => dag_Check.f k l) (checkS l) := by
  unfold dag_Check.f
  have bad : manyOk l = false → Ev (fun k => dag_Check.j0 k (l.length : Int) true l) (checkS l) := by
    intro h
    unfold checkS mayS
    rw [h, Bool.false_and]
    exact Ev.step (fun _ => dag_Check.j0.eq_2 ..) (ev_pos rfl (Ev.now _))
  by_cases h1 : (l.length : Int) < 1
  · exact ev_pos h1 (bad (decide_eq_false (by omega)))
  · refine ev_neg h1 ?_
    by_cases h2 : (l.length : Int) > 12
    · rw [decide_eq_true h2]
      exact bad (decide_eq_false (by omega))
    · rw [decide_eq_false h2]
      have hm : manyOk l = true := decide_eq_true (by omega)
      have := check_l0 l hf hm l.length 0 (by omega) rfl
      exact Ev.step (fun _ => dag_Check.j0.eq_2 ..) (ev_neg (by decide) this)
theorem check_zero (l : List NodeT) : checkS l = 0 ↔ mayS l = true := by
  unfold checkS
  cases mayS l <;> simp

/-! ### numbers as marks -/
def maskN : List Nat → Nat
  | [] => 0
  | a :: r => 2 ^ a ||| maskN r
theorem mask_bit (i : Nat) : ∀ acc : List Nat, (maskN acc).testBit i = acc.contains i
  | [] => by simp [maskN]
  | a :: r => by
    rw [maskN, Nat.testBit_or, mask_bit i r, Nat.testBit_two_pow, List.contains_cons, Bool.eq_iff_iff]
    simp
    exact or_congr_left ⟨fun h => h.symm, fun h => h.symm⟩
theorem mask_append (i : Nat) : ∀ acc : List Nat, maskN (acc ++ [i]) = maskN acc ||| 2 ^ i
  | [] => by simp [maskN]
  | a :: r => by rw [List.cons_append, maskN, mask_append i r, maskN, Nat.or_assoc]
theorem mask_lt (n : Nat) : ∀ acc : List Nat, (∀ a ∈ acc, a < n) → maskN acc < 2 ^ n
  | [], _ => Nat.two_pow_pos n
  | a :: r, h => Nat.or_lt_two_pow (Nat.pow_lt_pow_right (by decide) (h a (by simp))) (mask_lt n r fun b hb => h b (List.mem_cons_of_mem _ hb))
theorem wraps_i64 (n : Int) (h₀ : 0 ≤ n) (h₁ : n < 2 ^ 62) : IntKind.i64.wrap n = n := by rw [IntKind.wrap_i64]; omega
theorem mask_get (acc : List Nat) (i : Nat) (hi : i < 12) (ha : ∀ a ∈ acc, a < 12) : Go.bits .and .i64 (shr .i64 (maskN acc : Int) (i : Int)) 1 = if acc.contains i then 1 else 0 := by
  have hlt : maskN acc < 2 ^ 62 := Nat.lt_of_lt_of_le (mask_lt 12 acc ha) (by decide)
  have e1 : shr .i64 (maskN acc : Int) (i : Int) = ((maskN acc / 2 ^ i : Nat) : Int) := by
    unfold shr
    rw [Int.toNat_natCast, Nat.min_eq_left (by show i ≤ 64; omega)]
    simp
  have h2 : maskN acc / 2 ^ i < 2 ^ 62 := Nat.lt_of_le_of_lt (Nat.div_le_self _ _) hlt
  rw [e1, show (1 : Int) = ((1 : Nat) : Int) from rfl, (bits_nat .i64 62 (by decide) wraps_i64 _ 1 h2 (by decide)).1, Nat.and_one_is_mod, ← mask_bit i acc, Nat.testBit_eq_decide_div_mod_eq]
  by_cases h : maskN acc / 2 ^ i % 2 = 1
  · rw [h]; rfl
  · rw [show maskN acc / 2 ^ i % 2 = 0 by omega]; rfl
theorem mask_put (acc : List Nat) (i : Nat) (hi : i < 12) (ha : ∀ a ∈ acc, a < 12) : Go.bits .or .i64 (maskN acc : Int) (shl .i64 1 (i : Int)) = (maskN (acc ++ [i]) : Int) := by
  have hlt : maskN acc < 2 ^ 62 := Nat.lt_of_lt_of_le (mask_lt 12 acc ha) (by decide)
  have hp : 2 ^ i < 2 ^ 62 := Nat.pow_lt_pow_right (by decide) (by omega)
  have e1 : shl .i64 1 (i : Int) = ((2 ^ i : Nat) : Int) := by
    unfold shl
    rw [Int.toNat_natCast, Nat.min_eq_left (by show i ≤ 64; omega), Int.one_mul, wraps_i64 _ (by exact_mod_cast Nat.zero_le _) (by exact_mod_cast hp)]
    simp
  rw [e1, (bits_nat .i64 62 (by decide) wraps_i64 _ _ hlt hp).2, mask_append]

/-! ### the order -/
theorem order_l2 (l : List NodeT) (hs : shapeS l = true) (h12 : l.length ≤ 12) (acc : List Nat) (ha : ∀ a ∈ acc, a < 12) (i : Nat) (hi : i < l.length) (r : List Int)
    (hno : Ev (fun k => dag_order.l1 k (acc.map Int.ofNat) (maskN acc : Int) l (l.length : Int) (wrap64 ((i : Int) + 1)) l) r ∨ (needs l i).all (inN acc) = true)
    (hyes : (needs l i).all (inN acc) = true → Ev (fun k => dag_order.l0 k ((acc ++ [i]).map Int.ofNat) (maskN (acc ++ [i]) : Int) l) r) (hal : acc.length ≤ 1000) :
    ∀ (d j : Nat), j + d = l[i].f0.length → (l[i].f0.drop j).all (inN acc) = (needs l i).all (inN acc) → Ev (fun k => dag_order.l2 k (acc.map Int.ofNat) (maskN acc : Int) (i : Int) l (l.length : Int) (i : Int) l[i].f0 (l[i].f0.length : Int) (j : Int) l) r
  | 0, j, h, hj => by
    rw [List.drop_eq_nil_of_le (by omega)] at hj
    refine Ev.step (fun _ => dag_order.l2.eq_2 ..) (ev_neg (by omega) (ev_pos (by rw [List.length_map]; omega) (ev_pos (by omega) ?_)))
    have := hyes hj.symm
    rw [mask_put acc i (by omega) ha]
    rw [List.map_append] at this
    exact this
  | d + 1, j, h, hj => by
    have hjl : j < l[i].f0.length := by omega
    have hnd := shape_needs l hs i hi
    have hsl := shape_len l hs i hi
    rw [needs_at l i hi] at hnd
    obtain ⟨k0, k1, _⟩ := hnd _ (List.getElem_mem hjl)
    obtain ⟨v, hv⟩ := Int.eq_ofNat_of_zero_le k0
    refine Ev.step (fun _ => dag_order.l2.eq_2 ..) (ev_pos (by omega) (ev_pos (by omega) (ev_pos (by omega) ?_)))
    rw [rd_int l[i].f0 j hjl, hv]
    refine ev_pos (by omega) ?_
    rw [mask_get acc v (by omega) ha]
    rw [List.drop_eq_getElem_cons hjl, List.all_cons, hv, inN_nat] at hj
    cases hc : acc.contains v with
    | false =>
      rw [hc, Bool.false_and] at hj
      refine ev_pos (by rfl) ?_
      rcases hno with hno | hno
      · exact hno
      · rw [hno] at hj
        exact absurd hj (by decide)
    | true =>
      rw [hc, Bool.true_and] at hj
      refine ev_neg (by decide) ?_
      rw [w64 (by omega) (by omega), show (j : Int) + 1 = ((j + 1 : Nat) : Int) by omega]
      exact order_l2 l hs h12 acc ha i hi r hno hyes hal d (j + 1) (by omega) hj
theorem order_l1 (l : List NodeT) (hs : shapeS l = true) (h12 : l.length ≤ 12) (acc : List Nat) (ha : ∀ a ∈ acc, a < 12) (r : List Int) (hal : acc.length ≤ 1000)
    (hn : nextN l acc = none → acc.map Int.ofNat = r)
    (hi : ∀ i, nextN l acc = some i → Ev (fun k => dag_order.l0 k ((acc ++ [i]).map Int.ofNat) (maskN (acc ++ [i]) : Int) l) r) :
    ∀ (d j : Nat), j + d = l.length → (∀ i, i < j → avail l acc i = false) → Ev (fun k => dag_order.l1 k (acc.map Int.ofNat) (maskN acc : Int) l (l.length : Int) (j : Int) l) r
  | 0, j, h, hj => by
    refine Ev.step (fun _ => dag_order.l1.eq_2 ..) (ev_neg (by omega) (ev_some (hn ?_)))
    unfold nextN
    rw [List.find?_eq_none]
    intro i hi'
    rw [hj i (by have := List.mem_range.mp hi'; omega)]
    decide
  | d + 1, j, h, hj => by
    have hjl : j < l.length := by omega
    refine Ev.step (fun _ => dag_order.l1.eq_2 ..) (ev_pos (by omega) (ev_pos (by omega) (ev_pos (by omega) ?_)))
    rw [mask_get acc j (by omega) ha]
    have next : avail l acc j = false → Ev (fun k => dag_order.l1 k (acc.map Int.ofNat) (maskN acc : Int) l (l.length : Int) (wrap64 ((j : Int) + 1)) l) r := by
      intro hav
      rw [w64 (by omega) (by omega), show (j : Int) + 1 = ((j + 1 : Nat) : Int) by omega]
      refine order_l1 l hs h12 acc ha r hal hn hi d (j + 1) (by omega) fun i hi' => ?_
      by_cases e : i = j
      · rw [e]; exact hav
      · exact hj i (by omega)
    cases hc : acc.contains j with
    | true => exact ev_pos rfl (next (by unfold avail; rw [hc]; rfl))
    | false =>
      have hav : avail l acc j = (needs l j).all (inN acc) := by unfold avail; rw [hc]; rfl
      refine ev_neg (by decide) ?_
      rw [rd_node l j hjl]
      refine order_l2 l hs h12 acc ha j hjl r ?_ ?_ hal l[j].f0.length 0 (by omega) (by rw [List.drop_zero, needs_at l j hjl])
      · cases hb : (needs l j).all (inN acc) with
        | true => exact Or.inr rfl
        | false => exact Or.inl (next (by rw [hav, hb]))
      · intro hb
        refine hi j ?_
        unfold nextN
        rw [List.find?_range_eq_some]
        refine ⟨by rw [hav, hb], List.mem_range.mpr hjl, fun i hij => ?_⟩
        rw [hj i hij]
        rfl
theorem order_l0 (l : List NodeT) (hs : shapeS l = true) (h12 : l.length ≤ 12) : ∀ (d : Nat) (acc : List Nat), acc.length + d = l.length → (∀ a ∈ acc, a < 12) → (und l.length acc).length + acc.length = l.length → Ev (fun k => dag_order.l0 k (acc.map Int.ofNat) (maskN acc : Int) l) ((rowGo l d acc).map Int.ofNat)
  | d, acc, h, ha, hu => by
    refine Ev.step (fun _ => dag_order.l0.eq_2 ..) ?_
    refine order_l1 l hs h12 acc ha _ (by omega) ?_ ?_ l.length 0 (by omega) (fun i hi => absurd hi (by omega))
    · intro hn
      cases d with
      | zero => rfl
      | succ d => rw [rowGo, hn]
    · intro i hn
      obtain ⟨h1, h2, _⟩ := next_some hn
      have hus := und_step l.length acc i h1 h2
      match d, h with
      | 0, h => exact absurd hus (by omega)
      | d + 1, h =>
        have hr : rowGo l (d + 1) acc = rowGo l d (acc ++ [i]) := by rw [rowGo, hn]
        rw [hr]
        refine order_l0 l hs h12 d (acc ++ [i]) (by rw [List.length_append]; simp; omega) ?_ (by rw [List.length_append]; simp; omega)
        intro a hm
        rcases List.mem_append.mp hm with hm | hm
        · exact ha a hm
        · rw [List.mem_singleton.mp hm]; omega
theorem order_ev (l : List NodeT) (hs : shapeS l = true) (h12 : l.length ≤ 12) : Ev (fun k => dag_order.f k l) (rowS l) := by
  unfold dag_order.f
  have hu : und l.length [] = List.range l.length := List.filter_eq_self.mpr (fun _ _ => rfl)
  exact order_l0 l hs h12 l.length [] (by simp) (by simp) (by rw [hu]; simp)
def orderS (l : List NodeT) : List Int × Int := if checkS l = 0 then (rowS l, 0) else ([], checkS l)
theorem Order_ev (l : List NodeT) (hf : fitS l) : Ev (fun k => dag_Order.f k l) (orderS l) := by
  unfold dag_Order.f orderS
  refine Ev.bind (check_ev l hf) ?_
  by_cases h : checkS l = 0
  · rw [if_pos h]
    have hp := may_parts ((check_zero l).mp h)
    exact ev_pos h (Ev.bind (order_ev l hp.2.2.1 hp.2.1) (Ev.now _))
  · rw [if_neg h]
    exact ev_neg h (Ev.now _)
end Go.Proofs.Ytoplhlacdjlidaa.R

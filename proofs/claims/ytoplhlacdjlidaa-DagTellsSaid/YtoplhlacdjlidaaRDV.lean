/- What specs are written as. -/
import Derived.Test.YtoplhlacdjlidaaRx20
import Derived.Test.YtoplhlacdjlidaaRx19
import Derived.Test.YtoplhlacdjlidaaRx21
import Derived.Test.YtoplhlacdjlidaaRDU
namespace Go.Proofs.Ytoplhlacdjlidaa.R
open Go.RowKit Go.Proofs.YtoplhlacdjlidaaW.PrintWords Go.Proofs.YtoplhlacdjlidaaW.PrintLast Go.Proofs.YtoplhlacdjlidaaW.PrintMore Go.Proofs.Ytoplhlacdjlidaa.Plain
set_option linter.unusedVariables false
set_option linter.unusedSimpArgs false

theorem code_Small_l0 : ∀ (d n : Nat) (acc : List Int), n < 128 ^ (d + 1) → acc.length + d < 140737488355300 → Ev (fun k => code_Small.l0 k (n : Int) acc) (acc ++ smallN n)
  | d, n, acc, h, hl => by
    refine Ev.step (fun _ => code_Small.l0.eq_2 ..) ?_
    by_cases h1 : n < 128
    · refine ev_neg (by omega) (ev_pos (by omega) (ev_some ?_))
      rw [smallN_lt h1]
      congr 2
      omega
    · refine ev_pos (by omega) (ev_pos (by omega) ?_)
      cases d with
      | zero => omega
      | succ d =>
        have hd : n / 128 < 128 ^ (d + 1) := by rw [Nat.div_lt_iff_lt_mul (by decide)]; rw [Nat.pow_succ] at h; exact h
        rw [smallN_ge h1, or128 (by omega) (by omega)]
        refine ev_eq (code_Small_l0 d (n / 128) _ hd (by simp; omega)) ?_
        rw [List.append_assoc, List.singleton_append]
        congr 2
        omega
theorem code_Small_ev {n : Int} (h0 : 0 ≤ n) (h : n < 18446744073709551616) : Ev (fun k => code_Small.f k n) (smallN n.toNat) := by
  obtain ⟨m, rfl⟩ := Int.eq_ofNat_of_zero_le h0
  unfold code_Small.f
  exact code_Small_l0 9 m [] (by omega) (by simp)

theorem ref01_Small_l0 : ∀ (d n : Nat) (acc : List Int), n < 128 ^ (d + 1) → n < 18446744073709551616 → acc.length + d < 140737488355300 → Ev (fun k => millhandref01_Small.l0 k (n : Int) acc) (acc ++ smallN n)
  | d, n, acc, h, hn, hl => by
    refine Ev.step (fun _ => millhandref01_Small.l0.eq_2 ..) ?_
    by_cases h1 : n < 128
    · refine ev_neg (by omega) (ev_pos (by omega) (ev_some ?_))
      rw [smallN_lt h1]
      congr 2
      omega
    · refine ev_pos (by omega) (ev_pos (by omega) ?_)
      cases d with
      | zero => omega
      | succ d =>
        have hd : n / 128 < 128 ^ (d + 1) := by rw [Nat.div_lt_iff_lt_mul (by decide)]; rw [Nat.pow_succ] at h; exact h
        have e1 : IntKind.u64.wrap (Int.tdiv (n : Int) 128) = ((n / 128 : Nat) : Int) := by
          rw [Int.tdiv_eq_ediv_of_nonneg (by omega), u64w]
          omega
        rw [smallN_ge h1, e1, Int.tmod_eq_emod_of_nonneg (by omega)]
        refine ev_eq (ref01_Small_l0 d (n / 128) _ hd (by omega) (by simp; omega)) ?_
        rw [List.append_assoc, List.singleton_append]
        congr 2
        omega
theorem ref01_Small_ev {n : Int} (h0 : 0 ≤ n) (h : n < 18446744073709551616) : Ev (fun k => millhandref01_Small.f k n) (smallN n.toNat) := by
  obtain ⟨m, rfl⟩ := Int.eq_ofNat_of_zero_le h0
  unfold millhandref01_Small.f
  exact ref01_Small_l0 9 m [] (by omega) (by omega) (by simp)

/-! ### what is written -/
def bytesOf (c : List Int) : List Int := c.flatMap fun v => smallN v.toNat
theorem bytesOf_drop (c : List Int) (j : Nat) (h : j < c.length) : bytesOf (c.drop j) = smallN c[j].toNat ++ bytesOf (c.drop (j + 1)) := by
  rw [List.drop_eq_getElem_cons h, bytesOf, List.flatMap_cons]
  rfl
def numsOf (x : NodeT) : List Int := [[(x.f0.length : Int)], x.f0, [x.f1, x.f2]].flatten
def writtenS (l : List NodeT) : List Int := smallN l.length ++ l.flatMap fun x => bytesOf (numsOf x)
theorem small_len {v : Int} (h : v < 18446744073709551616) : (smallN v.toNat).length ≤ 10 := (smallN_len10 (by omega)).2
theorem write_l1 (l : List NodeT) (n i : Int) (c : List Int) (hc : ∀ v ∈ c, 0 ≤ v ∧ v < 4611686018427387904) (hcl : c.length ≤ 1000) (r : List Int × Int) : ∀ (d j : Nat) (acc : List Int), j + d = c.length → acc.length + 10 * d ≤ 1099511627776 →
    Ev (fun k => dag_Write.l0 k (acc ++ bytesOf (c.drop j)) l n (wrap64 (i + 1))) r → Ev (fun k => dag_Write.l1 k acc l n i c (c.length : Int) (j : Int)) r
  | 0, j, acc, h, hb, hk => by
    rw [List.drop_eq_nil_of_le (by omega), bytesOf, List.flatMap_nil, List.append_nil] at hk
    exact Ev.step (fun _ => dag_Write.l1.eq_2 ..) (ev_neg (by omega) hk)
  | d + 1, j, acc, h, hb, hk => by
    have hj : j < c.length := by omega
    obtain ⟨v0, v1⟩ := hc _ (List.getElem_mem hj)
    have hs := small_len (v := c[j]) (by omega)
    refine Ev.step (fun _ => dag_Write.l1.eq_2 ..) (ev_pos (by omega) (ev_pos (by omega) (ev_pos (by omega) ?_)))
    rw [rd_int c j hj, u64w_in v0 (by omega)]
    refine Ev.bind (code_Small_ev v0 (by omega)) (ev_pos (by omega) ?_)
    rw [w64 (by omega) (by omega), show (j : Int) + 1 = ((j + 1 : Nat) : Int) by omega]
    refine write_l1 l n i c hc hcl r d (j + 1) (acc ++ smallN c[j].toNat) (by omega) (by rw [List.length_append]; omega) ?_
    rw [bytesOf_drop c j hj, ← List.append_assoc] at hk
    exact hk
theorem shape_bounds (l : List NodeT) (hs : shapeS l = true) (h12 : l.length ≤ 12) (i : Nat) (hi : i < l.length) : l[i].f0.length ≤ 12 ∧ ∀ v ∈ numsOf l[i], 0 ≤ v ∧ v < 4611686018427387904 := by
  have hsl := shape_len l hs i hi
  have hnd := shape_needs l hs i hi
  rw [needs_at l i hi] at hnd
  have hb := shapeFrom_at _ l 0 hs i hi
  simp only [nodeOk, Bool.and_eq_true] at hb
  have hbo := of_decide_eq_true hb.1
  refine ⟨by omega, fun v hv => ?_⟩
  simp only [numsOf, List.flatten_cons, List.flatten_nil, List.append_nil, List.mem_append, List.mem_cons, List.not_mem_nil, or_false] at hv
  rcases hv with rfl | hv | rfl | rfl
  · omega
  · have := hnd v hv
    omega
  · omega
  · omega
theorem numsOf_length (x : NodeT) : (numsOf x).length = x.f0.length + 3 := by
  simp [numsOf]
theorem write_l0 (l : List NodeT) (hs : shapeS l = true) (h12 : l.length ≤ 12) : ∀ (d i : Nat) (acc : List Int), i + d = l.length → acc.length + 200 * d ≤ 1000000 → Ev (fun k => dag_Write.l0 k acc l (l.length : Int) (i : Int)) (acc ++ ((l.drop i).flatMap fun x => bytesOf (numsOf x)), 0)
  | 0, i, acc, h, ha => by
    rw [List.drop_eq_nil_of_le (by omega), List.flatMap_nil, List.append_nil]
    exact Ev.step (fun _ => dag_Write.l0.eq_2 ..) (ev_neg (by omega) (Ev.now _))
  | d + 1, i, acc, h, ha => by
    have hi : i < l.length := by omega
    obtain ⟨hx, hv⟩ := shape_bounds l hs h12 i hi
    have hn := numsOf_length l[i]
    refine Ev.step (fun _ => dag_Write.l0.eq_2 ..) (ev_pos (by omega) (ev_pos (by omega) (ev_pos (by omega) ?_)))
    rw [rd_node l i hi]
    have hc := concat_ev [[(l[i].f0.length : Int)], l[i].f0, [l[i].f1, l[i].f2]] (by simp) (by show (numsOf l[i]).length ≤ _; omega) (by show 0 < (numsOf l[i]).length; omega)
    refine Ev.bind hc ?_
    have hlen : (bytesOf (numsOf l[i])).length ≤ 10 * (numsOf l[i]).length := by
      generalize numsOf l[i] = c at hv ⊢
      induction c with
      | nil => exact Nat.le_refl 0
      | cons a c ih =>
        have h1 := small_len (v := a) (by have := hv a (by simp); omega)
        have h2 := ih (fun v h => hv v (List.mem_cons_of_mem _ h))
        show (smallN a.toNat ++ bytesOf c).length ≤ 10 * (c.length + 1)
        rw [List.length_append]
        omega
    have := write_l1 l (l.length : Int) (i : Int) (numsOf l[i]) hv (by omega) (acc ++ ((l.drop i).flatMap fun x => bytesOf (numsOf x)), 0) (numsOf l[i]).length 0 acc (by omega) (by omega) (by
      rw [w64 (by omega) (by omega), show (i : Int) + 1 = ((i + 1 : Nat) : Int) by omega, List.drop_zero, List.drop_eq_getElem_cons hi, List.flatMap_cons, ← List.append_assoc]
      exact write_l0 l hs h12 d (i + 1) (acc ++ bytesOf (numsOf l[i])) (by omega) (by rw [List.length_append]; omega))
    exact this
def writeS (l : List NodeT) : List Int × Int := if checkS l = 0 then (writtenS l, 0) else ([], checkS l)
theorem Write_ev (l : List NodeT) (hf : fitS l) : Ev (fun k => dag_Write.f k l) (writeS l) := by
  unfold dag_Write.f writeS
  refine Ev.bind (check_ev l hf) ?_
  by_cases h : checkS l = 0
  · rw [if_pos h]
    have hp := may_parts ((check_zero l).mp h)
    refine ev_pos h ?_
    rw [u64w_in (by omega) (by omega)]
    have hs := small_len (v := (l.length : Int)) (by omega)
    refine Ev.bind (code_Small_ev (by omega) (by omega)) ?_
    rw [Int.toNat_natCast] at hs ⊢
    have := write_l0 l hp.2.2.1 hp.2.1 l.length 0 (smallN l.length) (by omega) (by omega)
    exact this
  · rw [if_neg h]
    exact ev_neg h (Ev.now _)
theorem refBytes_l1 (l : List NodeT) (i : Int) (c : List Int) (f1 f2 : Int) (hc : ∀ v ∈ c, 0 ≤ v ∧ v < 4611686018427387904) (h1 : 0 ≤ f1 ∧ f1 < 4611686018427387904) (h2 : 0 ≤ f2 ∧ f2 < 4611686018427387904) (hcl : c.length ≤ 1000) (r : List Int) : ∀ (d j : Nat) (acc : List Int), j + d = c.length → acc.length + 10 * d + 20 ≤ 1099511627776 →
    Ev (fun k => millhandref23_Bytes.l0 k (acc ++ bytesOf (c.drop j) ++ smallN f1.toNat ++ smallN f2.toNat) (wrap64 (i + 1)) l) r → Ev (fun k => millhandref23_Bytes.l1 k acc i (j : Int) l c f1 f2) r
  | 0, j, acc, h, hb, hk => by
    have hs1 := small_len (v := f1) (by omega)
    have hs2 := small_len (v := f2) (by omega)
    rw [List.drop_eq_nil_of_le (by omega), bytesOf, List.flatMap_nil, List.append_nil] at hk
    refine Ev.step (fun _ => millhandref23_Bytes.l1.eq_2 ..) (ev_neg (by omega) ?_)
    rw [u64w_in h1.1 (by omega)]
    refine Ev.bind (ref01_Small_ev h1.1 (by omega)) (ev_pos (by omega) (Ev.bind (Ev.now _) ?_))
    rw [u64w_in h2.1 (by omega)]
    refine Ev.bind (ref01_Small_ev h2.1 (by omega)) (ev_pos (by rw [List.length_append]; omega) hk)
  | d + 1, j, acc, h, hb, hk => by
    have hj : j < c.length := by omega
    obtain ⟨v0, v1⟩ := hc _ (List.getElem_mem hj)
    have hs := small_len (v := c[j]) (by omega)
    refine Ev.step (fun _ => millhandref23_Bytes.l1.eq_2 ..) (ev_pos (by omega) (ev_pos (by omega) ?_))
    rw [rd_int c j hj, u64w_in v0 (by omega)]
    refine Ev.bind (ref01_Small_ev v0 (by omega)) (ev_pos (by omega) ?_)
    rw [w64 (by omega) (by omega), show (j : Int) + 1 = ((j + 1 : Nat) : Int) by omega]
    refine refBytes_l1 l i c f1 f2 hc h1 h2 hcl r d (j + 1) (acc ++ smallN c[j].toNat) (by omega) (by rw [List.length_append]; omega) ?_
    rw [bytesOf_drop c j hj, ← List.append_assoc] at hk
    exact hk
theorem bytesOf_nums (x : NodeT) : bytesOf (numsOf x) = smallN x.f0.length ++ bytesOf x.f0 ++ smallN x.f1.toNat ++ smallN x.f2.toNat := by
  simp [bytesOf, numsOf]
theorem bytesOf_len (c : List Int) (hc : ∀ v ∈ c, 0 ≤ v ∧ v < 4611686018427387904) : (bytesOf c).length ≤ 10 * c.length := by
  induction c with
  | nil => exact Nat.le_refl 0
  | cons a c ih =>
    have h1 := small_len (v := a) (by have := hc a (by simp); omega)
    have h2 := ih (fun v h => hc v (List.mem_cons_of_mem _ h))
    show (smallN a.toNat ++ bytesOf c).length ≤ 10 * (c.length + 1)
    rw [List.length_append]
    omega
theorem refBytes_l0 (l : List NodeT) (hs : shapeS l = true) (h12 : l.length ≤ 12) : ∀ (d i : Nat) (acc : List Int), i + d = l.length → acc.length + 200 * d ≤ 1000000 → Ev (fun k => millhandref23_Bytes.l0 k acc (i : Int) l) (acc ++ ((l.drop i).flatMap fun x => bytesOf (numsOf x)))
  | 0, i, acc, h, ha => by
    rw [List.drop_eq_nil_of_le (by omega), List.flatMap_nil, List.append_nil]
    exact Ev.step (fun _ => millhandref23_Bytes.l0.eq_2 ..) (ev_neg (by omega) (Ev.now _))
  | d + 1, i, acc, h, ha => by
    have hi : i < l.length := by omega
    obtain ⟨hx, hv⟩ := shape_bounds l hs h12 i hi
    have hn := numsOf_length l[i]
    have hbl := bytesOf_len _ hv
    have hmem : ∀ v, v ∈ numsOf l[i] ↔ (v = (l[i].f0.length : Int) ∨ v ∈ l[i].f0 ∨ v = l[i].f1 ∨ v = l[i].f2) := by intro v; simp [numsOf]
    refine Ev.step (fun _ => millhandref23_Bytes.l0.eq_2 ..) (ev_pos (by omega) (ev_pos (by omega) ?_))
    rw [rd_node l i hi, u64w_in (by omega) (by omega)]
    have hs1 := small_len (v := (l[i].f0.length : Int)) (by omega)
    refine Ev.bind (ref01_Small_ev (by omega) (by omega)) (ev_pos (by omega) ?_)
    have := refBytes_l1 l (i : Int) l[i].f0 l[i].f1 l[i].f2 (fun v h => hv v ((hmem v).mpr (Or.inr (Or.inl h)))) (hv _ ((hmem _).mpr (Or.inr (Or.inr (Or.inl rfl))))) (hv _ ((hmem _).mpr (Or.inr (Or.inr (Or.inr rfl))))) (by omega) (acc ++ ((l.drop i).flatMap fun x => bytesOf (numsOf x))) l[i].f0.length 0 (acc ++ smallN ((l[i].f0.length : Int)).toNat) (by omega) (by rw [List.length_append]; omega) (by
      rw [w64 (by omega) (by omega), show (i : Int) + 1 = ((i + 1 : Nat) : Int) by omega, List.drop_zero, List.drop_eq_getElem_cons hi, List.flatMap_cons, ← List.append_assoc, Int.toNat_natCast]
      have h2 := refBytes_l0 l hs h12 d (i + 1) (acc ++ bytesOf (numsOf l[i])) (by omega) (by rw [List.length_append]; omega)
      have e : acc ++ smallN l[i].f0.length ++ bytesOf l[i].f0 ++ smallN l[i].f1.toNat ++ smallN l[i].f2.toNat = acc ++ bytesOf (numsOf l[i]) := by rw [bytesOf_nums]; simp only [List.append_assoc]
      rw [e]
      exact h2)
    exact this
theorem refWrite_ev (l : List NodeT) (hf : fitS l) : Ev (fun k => millhandref23_Write.f k l) (writeS l) := by
  unfold millhandref23_Write.f writeS checkS
  refine Ev.bind (ref_May_ev l hf) ?_
  cases h : mayS l with
  | true =>
    have hp := may_parts h
    refine ev_pos rfl (Ev.bind ?_ (Ev.now _))
    unfold millhandref23_Bytes.f writtenS
    rw [u64w_in (by omega) (by omega)]
    have hs := small_len (v := (l.length : Int)) (by omega)
    refine Ev.bind (ref01_Small_ev (by omega) (by omega)) ?_
    rw [Int.toNat_natCast] at hs ⊢
    refine ev_pos (by rw [List.length_nil]; omega) ?_
    have := refBytes_l0 l hp.2.2.1 hp.2.1 l.length 0 (smallN l.length) (by omega) (by omega)
    exact this
  | false => exact ev_neg (by decide) (Ev.now _)
end Go.Proofs.Ytoplhlacdjlidaa.R

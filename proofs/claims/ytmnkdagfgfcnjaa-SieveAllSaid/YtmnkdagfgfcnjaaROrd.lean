/- The laws SieveNames, SieveAll and SieveOrder in plain words. -/
import Derived.Test.YtmnkdagfgfcnjaaRx2
import Derived.Test.YtmnkdagfgfcnjaaRx4
import Derived.Test.YtmnkdagfgfcnjaaRx5
import Derived.Test.YtmnkdagfgfcnjaaRPlain
namespace Go.Proofs.Ytmnkdagfgfcnjaa.R
open Go.RowKit Go.Proofs.YtmnkdagfgfcnjaaW.PrintWords Go.Proofs.Ytmnkdagfgfcnjaa.Plain
set_option linter.unusedVariables false

theorem ref13_Heavy_l0 (l : List ByteArray) (hl : l.length < 9223372036854775807) : ∀ (d i : Nat) (n : Int), i + d = l.length → ∃ r, Ev (fun k => millhandref13_Heavy.l0 k l n (i : Int)) r
  | 0, i, n, h => by
    by_cases h1 : (l.length : Int) > 1100
    · exact ⟨_, Ev.step (fun _ => millhandref13_Heavy.l0.eq_2 ..) (ev_neg (by omega) (ev_pos h1 (Ev.now _)))⟩
    · exact ⟨_, Ev.step (fun _ => millhandref13_Heavy.l0.eq_2 ..) (ev_neg (by omega) (ev_neg h1 (Ev.now _)))⟩
  | d + 1, i, n, h => by
    by_cases h2 : (i : Int) < 2000
    · obtain ⟨r, hr⟩ := ref13_Heavy_l0 l hl d (i + 1) (wrap64 (n + (mn ((rdOf ByteArray.empty l (i : Int)).size : Int) 100000))) (by omega)
      refine ⟨r, Ev.step (fun _ => millhandref13_Heavy.l0.eq_2 ..) (ev_pos (by omega) (ev_pos h2 (ev_pos (by omega) ?_)))⟩
      rw [w64 (i := (i : Int) + 1) (by omega) (by omega)]
      exact hr
    · by_cases h1 : (l.length : Int) > 1100
      · exact ⟨_, Ev.step (fun _ => millhandref13_Heavy.l0.eq_2 ..) (ev_pos (by omega) (ev_neg h2 (ev_pos h1 (Ev.now _))))⟩
      · exact ⟨_, Ev.step (fun _ => millhandref13_Heavy.l0.eq_2 ..) (ev_pos (by omega) (ev_neg h2 (ev_neg h1 (Ev.now _))))⟩
theorem ref13_Heavy_ev (l : List ByteArray) (hl : l.length < 9223372036854775807) : ∃ r, Ev (fun k => millhandref13_Heavy.f k l) r := by
  unfold millhandref13_Heavy.f
  exact ref13_Heavy_l0 l hl l.length 0 0 (by omega)

theorem SieveNames_eq : millhandlaw13_SieveNames.f = some true := by
  have h1 : makeS ([] : List ByteArray) = (List.replicate 8 0, 0) := by rfl
  have h2 : makeS ([(⟨#[]⟩ : ByteArray)] : List ByteArray) = ([], 3) := by rfl
  obtain ⟨z, hz⟩ : ∃ z, z = List.replicate 1025 (⟨#[]⟩ : ByteArray) := ⟨_, rfl⟩
  have h3 : makeS z = ([], 4) := by
    unfold makeS
    rw [if_pos (by rw [hz, List.length_replicate]; omega)]
  obtain ⟨y, hy⟩ : ∃ y, y = List.replicate 1025 (0 : Int) := ⟨_, rfl⟩
  have h4 : checkS y = 8 := by
    unfold checkS
    rw [if_neg (by rw [hy, List.length_replicate]; omega), if_pos (by rw [hy, List.length_replicate]; omega)]
  have h5 : mayS (List.replicate 8 0) (⟨#[97]⟩ : ByteArray) = (false, 0) := by
    unfold mayS
    rw [if_pos (by rfl), if_pos (by rfl), setBits_none _ 8 (by decide)]
  have h6 : mayS (List.replicate 7 0) (⟨#[97]⟩ : ByteArray) = (false, 8) := by rfl
  have h7 : mayS (List.replicate 8 0) (⟨#[]⟩ : ByteArray) = (false, 3) := by rfl
  have h8 : checkS (List.replicate 8 0) = 0 := by rfl
  unfold millhandlaw13_SieveNames.f sieve_Make.f sieve_May.f
  rw [← hz, ← hy]
  simp only [Option.bind_some, h1, h2, h3, h5, h6, h7, h4, h8, sieve_Check_eq, alive_eq]
  have hs : (strOfNums (List.replicate 8 0)).toList = ([0, 0, 0, 0, 0, 0, 0, 0] : List UInt8) := by rw [ByteArray.toList_eq]; rfl
  rw [if_pos (by decide), if_pos (by decide), if_pos trivial, if_pos trivial, if_pos hs, if_neg (by decide), if_pos trivial, if_pos trivial, if_pos trivial, if_pos trivial, if_pos trivial, if_pos (by decide), if_pos trivial]
  rfl
theorem SieveNames_walk (w : World) :
    Calls Try.prog 3 #[] w fun e w' => e = .returned (.bool true) ∧ Below w.heap.size w w' :=
  millhandlaw13_SieveNames.calls true w SieveNames_eq

theorem SieveAll_l0 (l : List ByteArray) (h : (makeS l).2 = 0) (hl : l.length < 9223372036854775807) : ∀ (d i : Nat), i + d = l.length → Ev (fun k => millhandlaw13_SieveAll.l0 k l true (makeS l).1 (i : Int)) true
  | 0, i, hi => by
    refine Ev.step (fun _ => millhandlaw13_SieveAll.l0.eq_2 ..) (ev_neg (by omega) (ev_pos rfl ?_))
    simp only [sieve_Check_eq, makeS_check h, Option.bind_some]
    refine ev_pos trivial (ev_some ?_)
    rw [makeS_length h, beq_iff_eq]
    unfold manyS mx
    split <;> omega
  | d + 1, i, hi => by
    have hil : i < l.length := by omega
    refine Ev.step (fun _ => millhandlaw13_SieveAll.l0.eq_2 ..) (ev_pos (by omega) (ev_pos (by omega) ?_))
    unfold sieve_May.f
    rw [rd_key l i hil, makeS_may h (List.getElem_mem hil)]
    simp only [Option.bind_some]
    refine ev_pos trivial (ev_pos trivial ?_)
    rw [w64 (by omega) (by omega)]
    exact SieveAll_l0 l h hl d (i + 1) (by omega)
theorem SieveAll_ev (l : List ByteArray) (hl : l.length < 9223372036854775807) : Ev (fun k => millhandlaw13_SieveAll.f k l) true := by
  unfold millhandlaw13_SieveAll.f
  simp only [alive_eq, Option.bind_some]
  refine ev_pos trivial ?_
  obtain ⟨g, hg⟩ := ref13_Heavy_ev l hl
  refine Ev.bind hg ?_
  cases g with
  | true => exact ev_pos rfl (ev_some rfl)
  | false =>
    refine ev_neg (by simp) ?_
    unfold sieve_Make.f
    simp only [Option.bind_some]
    by_cases h : (makeS l).2 = 0
    · exact ev_pos h (SieveAll_l0 l h hl l.length 0 (by omega))
    · exact ev_neg h (ev_some (by rw [makeS_bad h]; rfl))
theorem SieveAll_walk (w : World) (A0 : Option Addr) (c0 : Nat) (l0 : List ByteArray) (r0 : Kd.C Kd.string w A0 l0.length l0) (q0 : l0.length ≤ c0) (g0_ : (l0.length * 16 ≤ 140737488351232 ∧ l0.length ≤ 9223372036854775807 ∧ ∀ y0 ∈ l0, y0.size ≤ 140737488351232)) :
    Calls Try.prog 5 #[.slice A0 l0.length c0] w fun e w' => e = .returned (.bool true) ∧ Below w.heap.size w w' := by
  obtain ⟨k, h⟩ := (SieveAll_ev l0 (by omega)).rounds
  exact millhandlaw13_SieveAll.calls k A0 c0 l0 true w r0 q0 h

theorem all_perm {l m : List ByteArray} (p : l.Perm m) : l.all keyedS = m.all keyedS := by
  rw [Bool.eq_iff_iff, List.all_eq_true, List.all_eq_true]
  exact ⟨fun h x hx => h x (p.mem_iff.mpr hx), fun h x hx => h x (p.mem_iff.mp hx)⟩
theorem makeS_perm {l m : List ByteArray} (p : l.Perm m) : makeS l = makeS m := by
  have hn : manyS l = manyS m := by unfold manyS; rw [p.length_eq]
  unfold makeS
  rw [p.length_eq, all_perm p, hn, p.foldl_eq' (fun x _ y _ z => setBits_comm y x _ _ z 4 4)]
def turnS (l : List ByteArray) (r : Nat) : List ByteArray := l.drop r ++ l.take r
theorem turnS_length (l : List ByteArray) (r : Nat) : (turnS l r).length = l.length := by
  unfold turnS
  rw [List.length_append, List.length_drop, List.length_take]
  omega
theorem turnS_perm (l : List ByteArray) (r : Nat) : (turnS l r).Perm l := by
  have := (List.perm_append_comm (l₁ := l.drop r) (l₂ := l.take r))
  rwa [List.take_append_drop] at this
theorem turnS_get (l : List ByteArray) (r i : Nat) (hr : r < l.length) (hi : i < l.length) (h1 : i < (turnS l r).length) (h2 : (i + r) % l.length < l.length) : (turnS l r)[i] = l[(i + r) % l.length] := by
  have h1' : i < (l.drop r ++ l.take r).length := h1
  show (l.drop r ++ l.take r)[i]'h1' = _
  by_cases h : i < l.length - r
  · have e : (i + r) % l.length = r + i := by rw [Nat.mod_eq_of_lt (by omega)]; omega
    simp only [e]
    rw [List.getElem_append_left (by rw [List.length_drop]; exact h), List.getElem_drop]
  · have e : (i + r) % l.length = i - (l.length - r) := by rw [Nat.mod_eq_sub_mod (by omega), Nat.mod_eq_of_lt (by omega)]; omega
    simp only [e]
    rw [List.getElem_append_right (by rw [List.length_drop]; omega), List.getElem_take]
    simp only [List.length_drop]
theorem full_set (n i : Nat) (h : i < n) : (List.replicate i (255 : Int) ++ List.replicate (n - i) 0).set i 255 = List.replicate (i + 1) 255 ++ List.replicate (n - (i + 1)) 0 := by
  rw [List.set_append_right _ _ (by simp), show n - i = (n - (i + 1)) + 1 by omega, List.replicate_succ, List.length_replicate, Nat.sub_self, List.set_cons_zero, List.replicate_succ', List.append_assoc]
  rfl
theorem SieveOrder_l1 (s : ByteArray) (m : List Int) (n : Nat) (hn : 8 ≤ n) (hn2 : n ≤ 1024) (x14 : Bool) (x15 : Int) (hm : (x14, x15) = mayS m s) (hc : checkS m = 0) : ∀ (d i : Nat), i + d = n → Ev (fun k => millhandlaw13_SieveOrder.l1 k s true x14 x15 (List.replicate i 255 ++ List.replicate (n - i) 0) (List.replicate n 0) (i : Int)) true
  | 0, i, h => by
    obtain rfl : i = n := by omega
    refine Ev.step (fun _ => millhandlaw13_SieveOrder.l1.eq_2 ..) (ev_neg (by simp) ?_)
    have c1 : checkS (List.replicate i 255) = 0 := by unfold checkS; rw [List.length_replicate, if_neg (by omega), if_neg (by omega)]
    have c2 : checkS (List.replicate i 0) = 0 := by unfold checkS; rw [List.length_replicate, if_neg (by omega), if_neg (by omega)]
    unfold mayS at hm
    rw [if_pos hc] at hm
    unfold sieve_May.f mayS
    rw [Nat.sub_self, List.replicate_zero, List.append_nil, if_pos c1, if_pos c2, setBits_full s i (by omega), setBits_none s i (by omega)]
    simp only [Option.bind_some]
    by_cases hk : keyedS s = true
    · rw [if_pos hk] at *
      obtain ⟨e1, e2⟩ := Prod.mk.inj hm
      subst e2
      rw [if_pos hk]
      refine ev_pos (by first | rfl | trivial) (ev_pos (by first | rfl | trivial) (ev_pos (by first | rfl | trivial) (ev_pos (by first | rfl | trivial) (ev_pos (by first | rfl | trivial) (ev_neg (by simp) ?_)))))
      cases x14
      · exact ev_neg (by simp) (ev_some rfl)
      · exact ev_pos (by first | rfl | trivial) (ev_some rfl)
    · rw [if_neg hk] at *
      obtain ⟨e1, e2⟩ := Prod.mk.inj hm
      subst e1 e2
      rw [if_neg hk]
      exact ev_pos (by first | rfl | trivial) (ev_pos (by first | rfl | trivial) (ev_pos (by first | rfl | trivial) (ev_neg (by decide) (ev_neg (by simp) (ev_some rfl)))))
  | d + 1, i, h => by
    refine Ev.step (fun _ => millhandlaw13_SieveOrder.l1.eq_2 ..) (ev_pos (by simp; omega) (ev_pos (by omega) ?_))
    rw [w64 (by omega) (by omega), Int.toNat_natCast, full_set n i (by omega)]
    exact SieveOrder_l1 s m n hn hn2 x14 x15 hm hc d (i + 1) (by omega)
theorem SieveOrder_end (l : List ByteArray) (s : ByteArray) (b : Int) (t : List ByteArray) (ht : makeS t = makeS l) (i : Int) (hi : ¬ i < (l.length : Int)) : Ev (fun k => millhandlaw13_SieveOrder.l0 k l s b true t i) true := by
  refine Ev.step (fun _ => millhandlaw13_SieveOrder.l0.eq_2 ..) (ev_neg hi ?_)
  unfold sieve_Make.f
  rw [ht]
  simp only [Option.bind_some]
  refine ev_pos (by first | rfl | trivial) (ev_pos (by first | rfl | trivial) (Ev.step (fun _ => millhandlaw13_SieveOrder.j2.eq_2 ..) ?_))
  by_cases h : (makeS l).2 = 0
  · have hlen := makeS_length h
    have hmr := many_range l (makeS_ok h).1
    refine ev_neg (by rw [h]; decide) ?_
    unfold sieve_May.f
    simp only [Option.bind_some]
    refine ev_pos (by omega) (ev_pos (by rw [hlen, Int.toNat_natCast]; omega) ?_)
    rw [hlen, Int.toNat_natCast]
    exact SieveOrder_l1 s (makeS l).1 (manyS l) (by omega) (by omega) _ _ rfl (makeS_check h) (manyS l) 0 (by omega)
  · exact ev_pos (bne_iff_ne.mpr h) (ev_pos (by first | rfl | trivial) (ev_pos (by first | rfl | trivial) (ev_some (by simp))))
theorem SieveOrder_l0 (l : List ByteArray) (s : ByteArray) (b : Nat) (hl : l.length < 8796093022208) (h0 : 0 < l.length) : ∀ (d i : Nat), i + d = l.length → Ev (fun k => millhandlaw13_SieveOrder.l0 k l s (b : Int) true ((turnS l (b % l.length)).take i) (i : Int)) true
  | 0, i, h => by
    refine SieveOrder_end l s b _ ?_ i (by omega)
    rw [List.take_of_length_le (by rw [turnS_length]; omega)]
    exact makeS_perm (turnS_perm l _)
  | d + 1, i, h => by
    have hr : b % l.length < l.length := Nat.mod_lt _ h0
    have hx : (i + b % l.length) % l.length < l.length := Nat.mod_lt _ h0
    have e1 : Int.tmod (wrap64 ((i : Int) + Int.tmod (b : Int) (l.length : Int))) (l.length : Int) = (((i + b % l.length) % l.length : Nat) : Int) := by
      rw [Int.tmod_eq_emod_of_nonneg (by omega : (0 : Int) ≤ (b : Int)), ← Int.natCast_emod, w64 (by omega) (by omega), Int.tmod_eq_emod_of_nonneg (by omega), ← Int.natCast_add, ← Int.natCast_emod]
    refine Ev.step (fun _ => millhandlaw13_SieveOrder.l0.eq_2 ..) (ev_pos (by omega) (ev_neg (by omega) ?_))
    rw [e1]
    refine ev_pos (by omega) (ev_pos (by omega) (ev_pos (by rw [List.length_take]; omega) ?_))
    rw [rd_key l _ hx, w64 (by omega) (by omega), ← turnS_get l (b % l.length) i hr (by omega) (by rw [turnS_length]; omega) hx, ← List.take_succ_eq_append_getElem]
    exact SieveOrder_l0 l s b hl h0 d (i + 1) (by omega)
theorem SieveOrder_ev (l : List ByteArray) (s : ByteArray) (b : Int) (hl : l.length < 8796093022208) : Ev (fun k => millhandlaw13_SieveOrder.f k l s b) true := by
  unfold millhandlaw13_SieveOrder.f
  simp only [alive_eq, Option.bind_some]
  refine ev_pos (by first | rfl | trivial) ?_
  obtain ⟨g, hg⟩ := ref13_Heavy_ev l (by omega)
  refine Ev.bind hg ?_
  have hT : Ev (fun k => millhandlaw13_SieveOrder.j0 k l s b true true) true := Ev.step (fun _ => millhandlaw13_SieveOrder.j0.eq_2 ..) (ev_pos (by first | rfl | trivial) (Ev.now _))
  cases g with
  | true => exact ev_pos (by first | rfl | trivial) hT
  | false =>
    refine ev_neg (by simp) ?_
    by_cases h1 : (s.size : Int) > 10000
    · exact ev_pos h1 hT
    · refine ev_neg h1 ?_
      by_cases h2 : (l.length : Int) = 0
      · exact ev_pos h2 hT
      · refine ev_neg h2 ?_
        by_cases h3 : b < 0
        · rw [decide_eq_true h3]; exact hT
        · rw [decide_eq_false h3]
          refine Ev.step (fun _ => millhandlaw13_SieveOrder.j0.eq_2 ..) (ev_neg (by simp) ?_)
          obtain ⟨n, rfl⟩ := Int.eq_ofNat_of_zero_le (by omega : 0 ≤ b)
          exact SieveOrder_l0 l s n hl (by omega) l.length 0 (by omega)
theorem SieveOrder_walk (w : World) (A0 : Option Addr) (c0 : Nat) (l0 : List ByteArray) (r0 : Kd.C Kd.string w A0 l0.length l0) (q0 : l0.length ≤ c0) (g0_ : (l0.length * 16 ≤ 140737488351232 ∧ l0.length ≤ 9223372036854775807 ∧ ∀ y0 ∈ l0, y0.size ≤ 140737488351232)) (a1 : ByteArray) (g1_ : a1.size ≤ 140737488351232) (a2 : Int) (g2_ : (Lit.int .i64 a2).wf = true) :
    Calls Try.prog 6 #[.slice A0 l0.length c0, .string a1, .int .i64 a2] w fun e w' => e = .returned (.bool true) ∧ Below w.heap.size w w' := by
  obtain ⟨k, h⟩ := (SieveOrder_ev l0 a1 a2 (by omega)).rounds
  exact millhandlaw13_SieveOrder.calls k A0 c0 l0 a1 a2 true w r0 q0 h
end Go.Proofs.Ytmnkdagfgfcnjaa.R

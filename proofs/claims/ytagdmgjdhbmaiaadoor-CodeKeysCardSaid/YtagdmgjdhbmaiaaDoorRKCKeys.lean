/- Parts become keys, keys parts, as the document says. -/
import Derived.Test.YtagdmgjdhbmaiaaDoorRx18
import Derived.Test.YtagdmgjdhbmaiaaDoorRx17
import Derived.Test.YtagdmgjdhbmaiaaDoorRx11
import Derived.Test.YtagdmgjdhbmaiaaDoorRKCm
import Derived.Test.YtagdmgjdhbmaiaaDoorRKRef
import Derived.Test.YtagdmgjdhbmaiaaDoorROp
namespace Go.Proofs.YtagdmgjdhbmaiaaDoor.R
open Go.RowKit Go.Proofs.YtagdmgjdhbmaiaaDoorW.PrintWords Go.Proofs.YtagdmgjdhbmaiaaDoorW.PrintLast Go.Proofs.YtagdmgjdhbmaiaaDoorW.PrintMore Go.Proofs.YtagdmgjdhbmaiaaDoor.Plain
set_option linter.unusedVariables false
set_option linter.unusedSimpArgs false
theorem above_snoc (l : List UInt8) (c : UInt8) (s p : ByteArray) (hs : s.data.toList = l ++ [c]) (hp : p.data.toList = l) : Esc.aboveS s = if c = 255 then Esc.aboveS p else (⟨(l ++ [c + 1]).toArray⟩, true) := by
  unfold Esc.aboveS
  rw [hs, hp, List.reverse_append]
  by_cases h : c = 255
  · rw [if_pos h, h]
    rfl
  · rw [if_neg h]
    have : ([c].reverse ++ l.reverse).dropWhile (· == 255) = c :: l.reverse := by
      rw [List.reverse_singleton, List.singleton_append, List.dropWhile_cons, if_neg (by simpa using h)]
    rw [this]
    simp
theorem ref_above_l0 : ∀ (n : Nat) (s : ByteArray), s.size = n → n ≤ 1000000 → Ev (fun k => millhandref01_Above.l0 k s) (Esc.aboveS s)
  | 0, s, h, _ => by
    have hz := Lib.size_eq s
    have e : s.data.toList = [] := List.eq_nil_of_length_eq_zero (by omega)
    have ea : Esc.aboveS s = (⟨#[]⟩, false) := by
      unfold Esc.aboveS
      rw [e]
      rfl
    rw [ea]
    exact Ev.step (fun _ => millhandref01_Above.l0.eq_2 ..) (ev_neg (by omega) (ev_pos (by rw [ByteArray.toList_eq, e]) (Ev.now _)))
  | n + 1, s, h, hn => by
    have hz := Lib.size_eq s
    have hne : s.data.toList ≠ [] := by
      intro e
      rw [e] at hz
      have e0 : ([] : List UInt8).length = 0 := rfl
      omega
    have hlast := List.dropLast_concat_getLast hne
    obtain ⟨l, hl⟩ : ∃ l, s.data.toList.dropLast = l := ⟨_, rfl⟩
    obtain ⟨c, hc⟩ : ∃ c, s.data.toList.getLast hne = c := ⟨_, rfl⟩
    rw [hl, hc] at hlast
    have hll : l.length = n := by
      rw [← hl, List.length_dropLast]
      omega
    have hb : bt s (n : Int) = (c.toNat : Int) := by
      rw [bt_nat s n (by omega)]
      have : s.data.toList[n]'(by omega) = c := by
        rw [← hc, List.getLast_eq_getElem]
        congr 1
        omega
      rw [this]
    have hp : (s.extract 0 n).data.toList = l := by
      rw [Lib.extract_data, ← hlast, List.drop_zero, Nat.sub_zero, List.take_left' hll]
    have hps : (s.extract 0 n).size = n := by rw [Lib.size_eq, hp, hll]
    have hcl := c.toNat_lt
    rw [above_snoc l c s (s.extract 0 n) hlast.symm hp]
    have e1 : wrap64 ((s.size : Int) - 1) = (n : Int) := by rw [w64 (by omega) (by omega)]; omega
    refine Ev.step (fun _ => millhandref01_Above.l0.eq_2 ..) (ev_pos (by omega) ?_)
    simp only [e1, Int.toNat_natCast, hb]
    refine ev_pos (by omega) (ev_pos (by omega) ?_)
    by_cases h5 : c = 255
    · rw [if_pos h5]
      refine ev_pos (by rw [h5]; rfl) (ev_pos (by omega) ?_)
      exact ref_above_l0 n _ hps (by omega)
    · rw [if_neg h5]
      refine ev_neg (fun e => h5 (UInt8.toNat_inj.mp (by have : (255 : UInt8).toNat = 255 := rfl; omega))) (ev_neg (by rw [ByteArray.toList_eq]; exact hne) (ev_pos (by omega) ?_))
      have hc5 : c.toNat ≠ 255 := fun e => h5 (UInt8.toNat_inj.mp e)
      have hy : strOfNums [((c.toNat : Int) + 1) % 256] = ⟨#[c + 1]⟩ := by
        have : ((c.toNat : Int) + 1) % 256 = ((c + 1).toNat : Int) := by
          rw [UInt8.toNat_add]
          have : (1 : UInt8).toNat = 1 := rfl
          omega
        rw [this]
        have := strOfNums_map [c + 1]
        simpa using this
      simp only [Option.bind_some, hy]
      refine ev_pos ?_ (ev_some ?_)
      · rw [hps]
        show n + 1 ≤ _
        omega
      · congr 1
        have : (s.extract 0 n ++ (⟨#[c + 1]⟩ : ByteArray)).data.toList = l ++ [c + 1] := by
          rw [ByteArray.data_append, Array.toList_append, hp]
        rw [← ba_eta (s.extract 0 n ++ ⟨#[c + 1]⟩), this]
theorem CodeKeys_ev (l : List PartT) (hl : l.length < 4398046511104) (s : ByteArray) : Ev (fun k => millhandlaw01_CodeKeys.f k l s) true := by
  unfold millhandlaw01_CodeKeys.f
  obtain ⟨b, hb, hc⟩ := heavy_ev l
  refine Ev.bind hb ?_
  cases b with
  | true => exact ev_pos rfl (Ev.step (fun _ => millhandlaw01_CodeKeys.j0.eq_2 ..) (ev_pos rfl (Ev.now _)))
  | false =>
    refine ev_neg (by decide) ?_
    by_cases h5 : (s.size : Int) > 100000
    · rw [decide_eq_true h5]
      exact Ev.step (fun _ => millhandlaw01_CodeKeys.j0.eq_2 ..) (ev_pos rfl (Ev.now _))
    · rw [decide_eq_false h5]
      have ha : code_Above.f s = some (Esc.aboveS s) := by
        unfold code_Above.f
        rw [if_pos (by omega)]
      refine Ev.step (fun _ => millhandlaw01_CodeKeys.j0.eq_2 ..) (ev_neg (by decide) (ev_pos (by simp; omega) ?_))
      simp only [Option.bind_some, List.nil_append, ha]
      refine Ev.bind (code_Key_ev l) (Ev.bind (ref_Key_ev l) (Ev.bind (code_Parts_ev s) (Ev.bind (ref_Parts_ev s) (Ev.bind (ref_above_l0 s.size s rfl (by omega)) (ev_pos rfl (ev_pos rfl ?_))))))
      have hp : (partsS s).1.length ≤ 4398046511104 := by
        by_cases h : (partsS s).2 = 0
        · have hz := Lib.size_eq s
          by_cases hb : s.size = 0 ∨ 64 < s.size
          · rw [show partsS s = ([], 3) by unfold partsS; rw [if_pos hb]] at h
            exact absurd h (by decide)
          · have e : partsS s = partsB 9 s.data.toList [] := by unfold partsS; rw [if_neg hb]
            have e2 : partsB 9 s.data.toList [] = ((partsS s).1, 0) := by rw [← e, ← h]
            obtain ⟨m, h1, h2, h3, h4⟩ := key_partsB 9 _ _ _ e2 (by simp)
            omega
        · rw [parts_bad s h]
          exact Nat.zero_le _
      exact Ev.bind (same_refl _ hp) (ev_pos rfl (ev_pos rfl (ev_pos rfl (ev_pos (by simp) (Ev.bind (same_refl l (by omega)) (Ev.now _))))))
theorem CodeKeys_walk (w : World) (A0 : Option Addr) (c0 : Nat) (l0 : List PartT) (r0 : Kd.C k50 w A0 l0.length l0) (q0 : l0.length ≤ c0) (g0_ : (l0.length * 32 ≤ 140737488351232 ∧ l0.length ≤ 9223372036854775807 ∧ ∀ y0 ∈ l0, g50 y0)) (a1 : ByteArray) (g1_ : a1.size ≤ 140737488351232) :
    Calls Tryd.prog 5 #[.slice A0 l0.length c0, .string a1] w fun e w' => e = .returned (.bool true) ∧ Below w.heap.size w w' := by
  obtain ⟨k, h⟩ := (CodeKeys_ev l0 (by omega) a1).rounds
  exact millhandlaw01_CodeKeys.calls k A0 c0 l0 a1 true w r0 q0 h
end Go.Proofs.YtagdmgjdhbmaiaaDoor.R

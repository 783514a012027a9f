/- Bytes as parts. -/
import Derived.Test.YtagdmgjdhbmaiaaDoorRx4
import Derived.Test.YtagdmgjdhbmaiaaDoorRKBytes
namespace Go.Proofs.YtagdmgjdhbmaiaaDoor.R
open Go.RowKit Go.Proofs.YtagdmgjdhbmaiaaDoorW.PrintWords Go.Proofs.YtagdmgjdhbmaiaaDoorW.PrintLast Go.Proofs.YtagdmgjdhbmaiaaDoorW.PrintMore Go.Proofs.YtagdmgjdhbmaiaaDoor.Plain
set_option linter.unusedVariables false

/-! ### bytes as parts -/
def un8 : List UInt8 → Int → Int
  | [], n => n
  | x :: l, n => un8 l (n * 256 + (x.toNat : Int))
def oneS : List UInt8 → Option (PartT × List UInt8)
  | [] => none
  | c :: r => if c = 1 then (if 8 ≤ r.length then some (⟨false, un8 (r.take 8) 0, ⟨#[]⟩⟩, r.drop 8) else none)
    else if c = 2 then (match Esc.unesc [] r with | none => none | some (a, q) => some (⟨true, 0, ⟨a.toArray⟩⟩, q)) else none
theorem oneS_cons (c : UInt8) (r : List UInt8) : oneS (c :: r) = if c = 1 then (if 8 ≤ r.length then some (⟨false, un8 (r.take 8) 0, ⟨#[]⟩⟩, r.drop 8) else none)
    else if c = 2 then (match Esc.unesc [] r with | none => none | some (a, q) => some (⟨true, 0, ⟨a.toArray⟩⟩, q)) else none := rfl
def partsB : Nat → List UInt8 → List PartT → List PartT × Int
  | 0, _, _ => ([], 8)
  | f + 1, x, acc => if x = [] then (acc, 0) else if acc.length = 8 then ([], 8) else
    match oneS x with | none => ([], 8) | some (p, q) => partsB f q (acc ++ [p])
def partsS (s : ByteArray) : List PartT × Int := if s.size = 0 ∨ 64 < s.size then ([], 3) else partsB 9 s.data.toList []
theorem bt_nat (x : ByteArray) (i : Nat) (h : i < x.size) : bt x (i : Int) = ((x.data.toList[i]'(by rw [← Lib.size_eq]; exact h)).toNat : Int) := by
  have := bt_at x (i : Int) (by simpa using h)
  rw [← this]
  rfl
theorem or_byte (n v : Nat) (hn : n < 72057594037927936) (hv : v < 256) : Go.bits .or .u64 (IntKind.u64.wrap ((n : Int) * 256)) (IntKind.u64.wrap (v : Int)) = (n : Int) * 256 + (v : Int) := by
  rw [u64w_in (i := (n : Int) * 256) (by omega) (by omega), u64w_in (i := (v : Int)) (by omega) (by omega), show (n : Int) * 256 = ((256 * n : Nat) : Int) by omega, (bits_nat .u64 64 (by decide) (fun n h0 h1 => u64w_in h0 (by omega)) (256 * n) v (by omega) (by omega)).2]
  have := Nat.two_pow_add_eq_or_of_lt (i := 8) (b := v) (by omega) n
  rw [show (2 : Nat) ^ 8 = 256 from rfl] at this
  rw [← this]
  omega
theorem Parts_l1 (x y : ByteArray) (acc : List PartT) (r : List PartT × Int) (hx : 9 ≤ x.size) (hy : y.size = 8) (ha : acc.length < 100) : ∀ (d i n : Nat), i + d = 8 → n < 256 ^ i →
    Ev (fun k => code_Parts.l0 k (x.extract 9 x.size) (acc ++ [⟨false, un8 (y.data.toList.drop i) (n : Int), ⟨#[]⟩⟩])) r → Ev (fun k => code_Parts.l1 k x acc y ((8 : Nat) : Int) (i : Int) false (n : Int) ⟨#[]⟩) r
  | 0, i, n, h, hn, hr => by
    have e : y.data.toList.drop i = [] := List.drop_eq_nil_of_le (by rw [← Lib.size_eq]; omega)
    rw [e] at hr
    exact Ev.step (fun _ => code_Parts.l1.eq_2 ..) (ev_neg (by omega) (ev_pos (by omega) (ev_pos (by omega) hr)))
  | d + 1, i, n, h, hn, hr => by
    have hi : i < y.data.toList.length := by rw [← Lib.size_eq]; omega
    refine Ev.step (fun _ => code_Parts.l1.eq_2 ..) (ev_pos (by omega) (ev_pos (by omega) (ev_pos (by omega) ?_)))
    have hn7 : n < 72057594037927936 := by
      have h1 : (256 : Nat) ^ i ≤ 256 ^ 7 := Nat.pow_le_pow_right (by decide) (by omega)
      have e : (256 : Nat) ^ 7 = 72057594037927936 := by decide
      omega
    have hv := (y.data.toList[i]).toNat_lt
    rw [w64 (by omega) (by omega), bt_nat y i (by omega), or_byte n _ hn7 (by omega)]
    have e1 : (n : Int) * 256 + ((y.data.toList[i]).toNat : Int) = ((n * 256 + (y.data.toList[i]).toNat : Nat) : Int) := by omega
    have e2 : (i : Int) + 1 = ((i + 1 : Nat) : Int) := by omega
    rw [List.drop_eq_getElem_cons hi, un8, e1] at hr
    rw [e1, e2]
    refine Parts_l1 x y acc r hx hy ha d (i + 1) _ (by omega) ?_ hr
    rw [Nat.pow_succ]
    omega
theorem unesc_length : ∀ (l acc a z : List UInt8), Esc.unesc acc l = some (a, z) → z.length + 2 ≤ l.length
  | [], _, _, _, h => by simp [Esc.unesc] at h
  | [x], _, _, _, h => by simp [Esc.unesc] at h
  | x :: y :: l, acc, a, z, h => by
    rw [Esc.unesc] at h
    by_cases h0 : x = 0
    · rw [if_pos h0] at h
      by_cases h1 : y = 0
      · rw [if_pos h1] at h
        simp only [Option.some.injEq, Prod.mk.injEq] at h
        rw [← h.2]
        simp
      · rw [if_neg h1] at h
        by_cases h2 : y = 255
        · rw [if_pos h2] at h
          have := unesc_length l _ a z h
          simp only [List.length_cons]
          omega
        · rw [if_neg h2] at h
          exact absurd h (by simp)
    · rw [if_neg h0] at h
      have := unesc_length (y :: l) _ a z h
      simp only [List.length_cons] at this ⊢
      omega
theorem Parts_l0 : ∀ (f : Nat) (x : ByteArray) (acc : List PartT), acc.length + f = 9 → 1 ≤ f → x.size ≤ 64 → Ev (fun k => code_Parts.l0 k x acc) (partsB f x.data.toList acc)
  | 0, _, _, _, h, _ => absurd h (by omega)
  | f + 1, x, acc, h, _, hx => by
    have hxl := Lib.size_eq x
    rw [partsB]
    by_cases h0 : x.data.toList = []
    · rw [if_pos h0]
      exact Ev.step (fun _ => code_Parts.l0.eq_2 ..) (ev_pos (by rw [ByteArray.toList_eq]; exact h0) (Ev.now _))
    · rw [if_neg h0]
      have hx1 : 0 < x.size := by
        rw [hxl]
        exact List.length_pos_iff.mpr h0
      refine Ev.step (fun _ => code_Parts.l0.eq_2 ..) (ev_neg (by rw [ByteArray.toList_eq]; exact h0) (ev_pos (by omega) ?_))
      by_cases h8 : acc.length = 8
      · rw [if_pos h8]
        exact ev_pos (by omega) (Ev.now _)
      · rw [if_neg h8]
        refine ev_neg (by omega) ?_
        obtain ⟨c, q, hcq⟩ : ∃ c q, x.data.toList = c :: q := by
          cases hh : x.data.toList with
          | nil => exact absurd hh h0
          | cons c q => exact ⟨c, q, rfl⟩
        have hql : q.length + 1 = x.size := by rw [hxl, hcq]; rfl
        have hb : bt x 0 = (c.toNat : Int) := by
          have := bt_nat x 0 hx1
          rw [show ((0 : Nat) : Int) = 0 from rfl] at this
          rw [this]
          simp [hcq]
        have hcl := c.toNat_lt
        rw [hb, hcq]
        have bad : Ev (fun k => code_Parts.j2 k x acc false (c.toNat : Int) false false 0 ⟨#[]⟩) (match (if c = 2 then (match Esc.unesc [] q with | none => none | some (a, z) => some ((⟨true, 0, ⟨a.toArray⟩⟩ : PartT), z)) else none) with | none => ([], 8) | some (p, z) => partsB f z (acc ++ [p])) := by
          refine Ev.step (fun _ => code_Parts.j2.eq_2 ..) (ev_neg (by simp) ?_)
          by_cases h2 : c = 2
          · rw [if_pos h2]
            refine ev_pos (by rw [h2]; rfl) (ev_pos (by omega) ?_)
            have hsz : (x.extract 1 x.size).size ≤ 1048576 := by rw [ByteArray.size_extract]; omega
            have hte : code_texted.f (x.extract 1 x.size) = some (Esc.textedS (x.extract 1 x.size)) := by
              unfold code_texted.f
              rw [if_pos hsz]
            have hdl : (x.extract 1 x.size).data.toList = q := by
              rw [Lib.extract_to_end, hcq]
              rfl
            simp only [hte, Option.bind_some, Esc.textedS, hdl]
            cases hu : Esc.unesc [] q with
            | none => exact ev_neg (by simp) (Ev.now _)
            | some az =>
              obtain ⟨a, z⟩ := az
              refine ev_pos rfl (ev_pos (by omega) ?_)
              have hz := unesc_length q [] a z hu
              have := Parts_l0 f ⟨z.toArray⟩ (acc ++ [⟨true, 0, ⟨a.toArray⟩⟩]) (by rw [List.length_append]; simp; omega) (by omega) (by rw [Lib.size_eq]; simp; omega)
              simpa using this
          · rw [if_neg h2]
            exact ev_neg (fun e => h2 (UInt8.toNat_inj.mp (by have : (2 : UInt8).toNat = 2 := rfl; omega))) (ev_neg (by simp) (Ev.now _))
        rw [oneS_cons]
        by_cases h1 : c = 1
        · rw [if_pos h1]
          refine ev_pos (by rw [h1]; rfl) ?_
          by_cases h9 : 8 ≤ q.length
          · rw [if_pos h9]
            refine Ev.step (fun _ => code_Parts.j2.eq_2 ..) (ev_pos (decide_eq_true (by omega)) (ev_pos (by decide) (ev_pos (by omega) ?_)))
            have hys : (x.extract 1 9).size = 8 := by rw [ByteArray.size_extract]; omega
            have hyd : (x.extract 1 9).data.toList = q.take 8 := by rw [Lib.extract_data, hcq]; rfl
            have hr : Ev (fun k => code_Parts.l0 k (x.extract 9 x.size) (acc ++ [⟨false, un8 ((x.extract 1 9).data.toList.drop 0) ((0 : Nat) : Int), ⟨#[]⟩⟩])) (partsB f (q.drop 8) (acc ++ [⟨false, un8 (q.take 8) 0, ⟨#[]⟩⟩])) := by
              rw [hyd]
              have hd9 : (x.extract 9 x.size).data.toList = q.drop 8 := by rw [Lib.extract_to_end, hcq]; rfl
              have := Parts_l0 f (x.extract 9 x.size) (acc ++ [⟨false, un8 (q.take 8) 0, ⟨#[]⟩⟩]) (by rw [List.length_append]; simp; omega) (by omega) (by rw [ByteArray.size_extract]; omega)
              rw [hd9] at this
              exact this
            have := Parts_l1 x (x.extract 1 9) acc _ (by omega) hys (by omega) 8 0 0 (by omega) (by decide) hr
            rw [hys]
            exact this
          · rw [if_neg h9]
            have hf : decide ((x.size : Int) > 8) = false := decide_eq_false (by omega)
            rw [hf]
            have := bad
            rw [if_neg (by rw [h1]; decide)] at this
            exact this
        · rw [if_neg h1]
          exact ev_neg (fun e => h1 (UInt8.toNat_inj.mp (by have : (1 : UInt8).toNat = 1 := rfl; omega))) bad
theorem code_Parts_ev (s : ByteArray) : Ev (fun k => code_Parts.f k s) (partsS s) := by
  unfold code_Parts.f partsS
  have hxl := Lib.size_eq s
  by_cases h0 : s.size = 0
  · rw [if_pos (Or.inl h0)]
    have : s.data.toList = [] := List.eq_nil_of_length_eq_zero (by rw [← hxl]; exact h0)
    exact ev_pos (by rw [ByteArray.toList_eq]; exact this) (Ev.step (fun _ => code_Parts.j0.eq_2 ..) (ev_pos rfl (Ev.now _)))
  · refine ev_neg (by rw [ByteArray.toList_eq]; intro e; rw [e] at hxl; exact h0 hxl) ?_
    by_cases h6 : 64 < s.size
    · rw [if_pos (Or.inr h6)]
      exact Ev.step (fun _ => code_Parts.j0.eq_2 ..) (ev_pos (decide_eq_true (by omega)) (Ev.now _))
    · rw [if_neg (by omega)]
      refine Ev.step (fun _ => code_Parts.j0.eq_2 ..) (ev_neg (by simp; omega) ?_)
      exact Parts_l0 9 s [] (by simp) (by omega) (by omega)
end Go.Proofs.YtagdmgjdhbmaiaaDoor.R

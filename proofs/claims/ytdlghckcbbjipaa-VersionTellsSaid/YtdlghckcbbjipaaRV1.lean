/- Which versions may be, in plain words; what a round holds. -/
import Derived.Test.YtdlghckcbbjipaaRx2
import Derived.Test.YtdlghckcbbjipaaRVM
namespace Go.Proofs.Ytdlghckcbbjipaa.R
open Go.RowKit Go.Proofs.YtdlghckcbbjipaaW.PrintWords Go.Proofs.YtdlghckcbbjipaaW.PrintLast Go.Proofs.YtdlghckcbbjipaaW.PrintMore Go.Proofs.Ytdlghckcbbjipaa.Plain Go.Proofs.Ytdlghckcbbjipaa.Ret Go.Proofs.Ytdlghckcbbjipaa.Co
set_option linter.unusedVariables false
set_option linter.unusedSimpArgs false
abbrev MetaT := S32
theorem at_lvl {w : World} {A : Option Addr} {xs : List (List MetaT)} (h : Kd.C (Kd.slice 32 k32) w A xs.length xs) (i : Nat) (hi : i < xs.length) :
    ∃ ad A0 c0, A = some ad ∧ w.cell? (ad.add i) = some (.slice A0 xs[i].length c0) ∧ xs[i].length ≤ c0 ∧ k32.C w A0 xs[i].length xs[i] := by
  have := at_L3 h (i : Int) (by omega) (by omega)
  rw [show rd_L3 xs (i : Int) = xs[i] by simp [rd_L3, List.getD_eq_getElem?_getD, List.getElem?_eq_getElem hi], Int.toNat_natCast] at this
  exact this
/-! ### which versions may be -/
def textS (most : Int) (s : ByteArray) : Bool := decide (1 ≤ s.size ∧ (s.size : Int) ≤ most)
def leS (a b : ByteArray) : Bool := !(Op.bytesLess b.toList a.toList)
def tableS (m : MetaT) : Bool := textS 16 m.f0 && (decide (1 ≤ m.f1 ∧ m.f1 ≤ 16384 ∧ 1 ≤ m.f2 ∧ m.f2 ≤ 65536) && (textS 64 m.f3 && (textS 64 m.f4 && leS m.f3 m.f4)))
/-- Does a table begin too low, behind one that ends so? -/
def overS (prev : Option ByteArray) (m : MetaT) : Bool := match prev with
  | some h => leS m.f3 h
  | none => false
def okS (k : Nat) (prev : Option ByteArray) (names : List ByteArray) (m : MetaT) : Bool := tableS m && (!(inS names m.f0) && !(decide (0 < k) && overS prev m))
def lvlS (k : Nat) : Option ByteArray → List ByteArray → List MetaT → Option (List ByteArray)
  | _, names, [] => some names
  | prev, names, m :: r => if okS k prev names m = true then lvlS k (some m.f4) (m.f0 :: names) r else none
def lvlsS : Nat → List ByteArray → List (List MetaT) → Bool
  | _, _, [] => true
  | k, names, l :: r => match lvlS k none names l with
    | none => false
    | some n => lvlsS (k + 1) n r
def headS (l : List (List MetaT)) (next seq : Int) (log : ByteArray) : Bool := decide (l.length = 4) && (textS 16 log && decide (1 ≤ next ∧ next ≤ 1099511627776 ∧ 0 ≤ seq ∧ seq ≤ 1099511627776))
def mayV (l : List (List MetaT)) (next seq : Int) (log : ByteArray) : Bool := headS l next seq log && lvlsS 0 [log] l
theorem within_f (s : ByteArray) (most : Int) : version_within.f s most = some (textS most s) := by
  unfold version_within.f textS
  by_cases h : (s.size : Int) ≥ 1
  · rw [if_pos h]
    congr 1
    exact decide_eq_decide.mpr ⟨fun h2 => ⟨by omega, h2⟩, fun h2 => h2.2⟩
  · rw [if_neg h, decide_eq_false (by omega)]
theorem table_f (m : MetaT) : version_table.f m.f0 m.f1 m.f2 m.f3 m.f4 = some (tableS m) := by
  unfold version_table.f tableS leS
  rw [within_f]
  cases textS 16 m.f0
  · rfl
  · simp only [Option.bind_some, if_true, Bool.true_and]
    by_cases h1 : m.f1 ≥ 1
    · rw [if_pos h1]
      by_cases h2 : m.f1 ≤ 16384
      · rw [if_pos h2]
        by_cases h3 : m.f2 ≥ 1
        · rw [if_pos h3]
          by_cases h4 : m.f2 ≤ 65536
          · rw [if_pos h4, decide_eq_true (show 1 ≤ m.f1 ∧ m.f1 ≤ 16384 ∧ 1 ≤ m.f2 ∧ m.f2 ≤ 65536 from ⟨by omega, h2, by omega, h4⟩), Bool.true_and, within_f]
            cases textS 64 m.f3
            · rfl
            · simp only [Option.bind_some, if_true, Bool.true_and]
              rw [within_f]
              cases textS 64 m.f4
              · rfl
              · rfl
          · rw [if_neg h4, decide_eq_false (fun h => h4 h.2.2.2)]; rfl
        · rw [if_neg h3, decide_eq_false (fun h => h3 (by omega))]; rfl
      · rw [if_neg h2, decide_eq_false (fun h => h2 h.2.1)]; rfl
    · rw [if_neg h1, decide_eq_false (fun h => h1 (by omega))]; rfl
theorem tableS_name {m : MetaT} (h : tableS m = true) : m.f0.size ≤ 16 := by
  unfold tableS at h
  rw [Bool.and_eq_true] at h
  have := of_decide_eq_true h.1
  omega

/-! ### what a round holds -/
structure VSt (w : World) (gb B : Nat) (cs : Array Value) (names : List ByteArray) (W : World) : Prop where
  box : W.heap[gb]? = some (.cells cs 24 (0, 0))
  map : SetM W B names
  bel : Below w.heap.size w W
  leb : w.heap.size ≤ gb
  lem : w.heap.size ≤ B
  ne : gb ≠ B
structure MSt (w : World) (gb B gm : Nat) (cs cm : Array Value) (names : List ByteArray) (W : World) : Prop where
  box : W.heap[gb]? = some (.cells cs 24 (0, 0))
  nod : W.heap[gm]? = some (.cells cm 32 (0, 0))
  map : SetM W B names
  bel : Below w.heap.size w W
  leb : w.heap.size ≤ gb
  lem : w.heap.size ≤ B
  len : w.heap.size ≤ gm
  ne : gb ≠ B
  nmb : gm ≠ gb
  nmB : gm ≠ B
section
variable {w W W2 : World} {gb B gm : Nat} {cs cm : Array Value} {names : List ByteArray}
theorem VSt.drew (h : VSt w gb B cs names W) : VSt w gb B cs names W.drew := ⟨h.box, h.map.below (below_drew1 (Below.refl _ _)), below_drew1 h.bel, h.leb, h.lem, h.ne⟩
theorem VSt.below (h : VSt w gb B cs names W) (hb : Below W.heap.size W W2) : VSt w gb B cs names W2 := ⟨blk_below h.box hb, h.map.below hb, below_step h.bel hb, h.leb, h.lem, h.ne⟩
theorem VSt.new (h : VSt w gb B cs names W) (hb : Below W.heap.size W W2) (e : gm = W.heap.size) (hk : W2.heap[gm]? = some (.cells cm 32 (0, 0))) : MSt w gb B gm cs cm names W2 :=
  ⟨blk_below h.box hb, hk, h.map.below hb, below_step h.bel hb, h.leb, h.lem, by rw [e]; exact below_size h.bel, h.ne, by have := blk_lt h.box; omega, by have := h.map.lt; omega⟩
theorem MSt.drew (h : MSt w gb B gm cs cm names W) : MSt w gb B gm cs cm names W.drew := ⟨h.box, h.nod, h.map.below (below_drew1 (Below.refl _ _)), below_drew1 h.bel, h.leb, h.lem, h.len, h.ne, h.nmb, h.nmB⟩
theorem MSt.below (h : MSt w gb B gm cs cm names W) (hb : Below W.heap.size W W2) : MSt w gb B gm cs cm names W2 := ⟨blk_below h.box hb, blk_below h.nod hb, h.map.below hb, below_step h.bel hb, h.leb, h.lem, h.len, h.ne, h.nmb, h.nmB⟩
theorem MSt.set (h : MSt w gb B gm cs cm names W) (i : Nat) (y : Value) {cm' : Array Value} (e : cm.setIfInBounds i y = cm') : MSt w gb B gm cs cm' names (W.setCell ⟨gm, i, none⟩ y) :=
  ⟨blk_far (p := ⟨gm, i, none⟩) h.box (Ne.symm h.nmb) _, blk_put h.nod i y e, h.map.far (p := ⟨gm, i, none⟩) (Ne.symm h.nmB) _, below_set h.bel h.len, h.leb, h.lem, h.len, h.ne, h.nmb, h.nmB⟩
theorem MSt.cell (h : MSt w gb B gm cs cm names W) (i : Nat) : W.cell? ⟨gm, i, none⟩ = cm[i]? := blk_cell h.nod i
theorem MSt.fr (h : MSt w gb B gm cs cm names W) (i : Nat) : W.frozen? ⟨gm, i, none⟩ = false := blk_frozen h.nod i
theorem MSt.forget (h : MSt w gb B gm cs cm names W) : VSt w gb B cs names W := ⟨h.box, h.map, h.bel, h.leb, h.lem, h.ne⟩
theorem VSt.put (h : VSt w gb B cs names W) {s : ByteArray} (hs : SetM W2 B (s :: names)) (hg : W.grownBy W2 (some B)) : VSt w gb B cs (s :: names) W2 :=
  ⟨blk_grown h.box hg (fun e => h.ne (Option.some.inj e)), hs, h.bel.grown hg (below_size h.bel) (fun j e => by have := h.lem; have := Option.some.inj e; omega), h.leb, h.lem, h.ne⟩
end
end Go.Proofs.Ytdlghckcbbjipaa.R

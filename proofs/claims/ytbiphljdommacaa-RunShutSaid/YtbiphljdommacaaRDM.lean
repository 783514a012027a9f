/- Specs in plain words: which may be, their order. -/
import Derived.Test.YtbiphljdommacaaRx6
import Derived.Test.YtbiphljdommacaaPlain
namespace Go.Proofs.Ytbiphljdommacaa.R
open Go.RowKit Go.Proofs.YtbiphljdommacaaW.PrintWords Go.Proofs.YtbiphljdommacaaW.PrintLast Go.Proofs.YtbiphljdommacaaW.PrintMore Go.Proofs.Ytbiphljdommacaa.Plain
set_option linter.unusedVariables false
set_option linter.unusedSimpArgs false
abbrev NodeT := S60
/-! ### specs -/
def needsOk (i many : Int) : Int → List Int → Bool
  | _, [] => true
  | last, k :: r => decide (last < k) && (decide (k < many) && (decide (k ≠ i) && needsOk i many k r))
def boundsOk (x : NodeT) : Bool := decide (1 ≤ x.f1 ∧ x.f1 ≤ 5 ∧ 0 ≤ x.f2 ∧ x.f2 ≤ 1048576)
def nodeOk (i many : Int) (x : NodeT) : Bool := boundsOk x && needsOk i many (-1) x.f0
def shapeFrom (many : Int) : Nat → List NodeT → Bool
  | _, [] => true
  | i, x :: r => nodeOk (i : Int) many x && shapeFrom many (i + 1) r
def shapeS (l : List NodeT) : Bool := shapeFrom (l.length : Int) 0 l
def needs (l : List NodeT) (i : Nat) : List Int := ((l[i]?).map (·.f0)).getD []
theorem needs_at (l : List NodeT) (i : Nat) (h : i < l.length) : needs l i = l[i].f0 := by simp [needs, List.getElem?_eq_getElem h]
theorem needsOk_mem (i many : Int) : ∀ (r : List Int) (last : Int), needsOk i many last r = true → ∀ k ∈ r, last < k ∧ k < many ∧ k ≠ i
  | [], _, _, k, hk => by simp at hk
  | a :: r, last, h, k, hk => by
    simp only [needsOk, Bool.and_eq_true, decide_eq_true_eq] at h
    rcases List.mem_cons.mp hk with rfl | hk
    · exact ⟨h.1, h.2.1, h.2.2.1⟩
    · have := needsOk_mem i many r a h.2.2.2 k hk
      exact ⟨by omega, this.2⟩
theorem shapeFrom_at (many : Int) : ∀ (l : List NodeT) (j : Nat), shapeFrom many j l = true → ∀ (i : Nat) (h : i < l.length), nodeOk ((j + i : Nat) : Int) many l[i] = true
  | [], _, _, i, h => by simp at h
  | x :: l, j, hs, i, h => by
    simp only [shapeFrom, Bool.and_eq_true] at hs
    cases i with
    | zero => exact hs.1
    | succ i =>
      have := shapeFrom_at many l (j + 1) hs.2 i (by simpa using h)
      rw [show j + (i + 1) = j + 1 + i by omega]
      exact this
theorem shape_needs (l : List NodeT) (hs : shapeS l = true) (i : Nat) (hi : i < l.length) : ∀ k ∈ needs l i, 0 ≤ k ∧ k < (l.length : Int) ∧ k ≠ (i : Int) := by
  intro k hk
  rw [needs_at l i hi] at hk
  have := shapeFrom_at _ l 0 hs i hi
  simp only [nodeOk, Bool.and_eq_true] at this
  have := needsOk_mem _ _ _ _ this.2 k hk
  rw [show ((0 + i : Nat) : Int) = (i : Int) by omega] at this
  exact ⟨by omega, this.2⟩
def edge (l : List NodeT) (a b : Nat) : Bool := (needs l a).contains (b : Int)
theorem edge_iff (l : List NodeT) (a b : Nat) : edge l a b = true ↔ (b : Int) ∈ needs l a := by simp [edge]

/-! ### what comes behind what -/
def mat (E : Nat → Nat → Bool) : Nat → Nat → Nat → Bool
  | 0 => E
  | k + 1 => fun a b => mat E k a b || (mat E k a k && mat E k k b)
theorem mat_step (E : Nat → Nat → Bool) (k a b : Nat) : mat E (k + 1) a b = (mat E k a b || (mat E k a k && mat E k k b)) := rfl
theorem mat_cases {E : Nat → Nat → Bool} {k a b : Nat} (h : mat E (k + 1) a b = true) : mat E k a b = true ∨ (mat E k a k = true ∧ mat E k k b = true) := by
  rw [mat_step, Bool.or_eq_true, Bool.and_eq_true] at h
  exact h
theorem edge_out (l : List NodeT) (a b : Nat) (ha : ¬ a < l.length) : edge l a b = false := by
  unfold edge needs
  rw [List.getElem?_eq_none (by omega)]
  rfl
def cycS (l : List NodeT) : Bool := (List.range l.length).any fun i => mat (edge l) l.length i i
def manyOk (l : List NodeT) : Bool := decide (1 ≤ l.length ∧ l.length ≤ 12)
/-- May a spec be? -/
def mayS (l : List NodeT) : Bool := manyOk l && (shapeS l && !(cycS l))
def checkS (l : List NodeT) : Int := if mayS l = true then 0 else 230
end Go.Proofs.Ytbiphljdommacaa.R
namespace Go.Proofs.Ytbiphljdommacaa.R
open Go.RowKit Go.Proofs.YtbiphljdommacaaW.PrintWords Go.Proofs.YtbiphljdommacaaW.PrintLast Go.Proofs.YtbiphljdommacaaW.PrintMore Go.Proofs.Ytbiphljdommacaa.Plain
set_option linter.unusedVariables false
set_option linter.unusedSimpArgs false
/-- A square of twelve by twelve bools in a block. -/
def MSt (w : World) (g : Nat) (F : Nat → Nat → Bool) : Prop := g < w.heap.size ∧ (∀ i j, i < 12 → j < 12 → w.cell? ⟨g, i * 12 + j, none⟩ = some (.bool (F i j))) ∧ (∀ i j, i < 12 → j < 12 → w.frozen? ⟨g, i * 12 + j, none⟩ = false)
theorem MSt.cell {w : World} {g : Nat} {F : Nat → Nat → Bool} (h : MSt w g F) (i j : Nat) (hi : i < 12) (hj : j < 12) : w.cell? ⟨g, i * 12 + j, none⟩ = some (.bool (F i j)) := h.2.1 i j hi hj
theorem MSt.fr {w : World} {g : Nat} {F : Nat → Nat → Bool} (h : MSt w g F) (i j : Nat) (hi : i < 12) (hj : j < 12) : w.frozen? ⟨g, i * 12 + j, none⟩ = false := h.2.2 i j hi hj
theorem MSt.congr {w : World} {g : Nat} {F G : Nat → Nat → Bool} (h : MSt w g F) (e : ∀ i j, i < 12 → j < 12 → F i j = G i j) : MSt w g G := ⟨h.1, fun i j hi hj => by rw [← e i j hi hj]; exact h.2.1 i j hi hj, h.2.2⟩
theorem MSt.below {w w' : World} {g : Nat} {F : Nat → Nat → Bool} (h : MSt w g F) (hb : Below w.heap.size w w') : MSt w' g F :=
  ⟨Nat.lt_of_lt_of_le h.1 hb.size, fun i j hi hj => (hb.cell (p := ⟨g, i * 12 + j, none⟩) h.1).trans (h.2.1 i j hi hj), fun i j hi hj => (hb.frozen (p := ⟨g, i * 12 + j, none⟩) h.1).trans (h.2.2 i j hi hj)⟩
theorem MSt.drew {w : World} {g : Nat} {F : Nat → Nat → Bool} (h : MSt w g F) : MSt w.drew g F := h
theorem MSt.set {w : World} {g : Nat} {F : Nat → Nat → Bool} (h : MSt w g F) (i j : Nat) (hi : i < 12) (hj : j < 12) (b : Bool) : MSt (w.setCell ⟨g, i * 12 + j, none⟩ (.bool b)) g (fun a c => if a = i ∧ c = j then b else F a c) := by
  refine ⟨?_, fun a c ha hc => ?_, fun a c ha hc => ?_⟩
  · rw [World.size_setCell]; exact h.1
  · show _ = some (Value.bool (if a = i ∧ c = j then b else F a c))
    by_cases e : a = i ∧ c = j
    · rw [if_pos e, e.1, e.2]
      exact World.cell?_setCell_same w _ _ (h.2.1 i j hi hj)
    · rw [if_neg e, World.cell?_setCell_other (h := show (⟨g, i * 12 + j, none⟩ : Addr) ≠ ⟨g, a * 12 + c, none⟩ from fun e2 => by
        injection e2 with _ e2 _
        exact e ⟨by omega, by omega⟩)]
      exact h.2.1 a c ha hc
  · rw [World.frozen?_setCell]
    exact h.2.2 a c ha hc
theorem MSt.new {w : World} {g : Nat} (h : w.heap[g]? = some (.cells (Array.replicate 144 (.bool false)) 73 (0, 0))) : MSt w g (fun _ _ => false) := by
  have hlt : g < w.heap.size := (Array.getElem?_eq_some_iff.1 h).1
  refine ⟨hlt, fun i j hi hj => ?_, fun i j hi hj => ?_⟩
  · simp only [World.cell?, h]
    show (Array.replicate 144 (Value.bool false))[i * 12 + j]? = some (Value.bool false)
    rw [Array.getElem?_replicate, if_pos (by omega)]
  · simp only [World.frozen?, h]
    simp
theorem MSt.far {w : World} {g : Nat} {F : Nat → Nat → Bool} (h : MSt w g F) {x : Addr} (hx : g ≠ x.block) (v : Value) : MSt (w.setCell x v) g F := by
  refine ⟨?_, fun i j hi hj => ?_, fun i j hi hj => ?_⟩
  · rw [World.size_setCell]; exact h.1
  · rw [World.cell?_setCell_other (h := show x ≠ ⟨g, i * 12 + j, none⟩ from fun e => hx (by rw [e]))]
    exact h.2.1 i j hi hj
  · rw [World.frozen?_setCell]
    exact h.2.2 i j hi hj
/-- The square beside the box of the argument, and all that stood before. -/
structure CSt (w0 w' : World) (g : Nat) (cs : Array Value) (t : TypeId) (gm : Nat) (F : Nat → Nat → Bool) : Prop where
  m : MSt w' gm F
  b : w'.heap[g]? = some (.cells cs t (0, 0))
  bel : Below w0.heap.size w0 w'
  ge : w0.heap.size ≤ gm
  ne : g ≠ gm
theorem CSt.congr {w0 w' : World} {g : Nat} {cs : Array Value} {t : TypeId} {gm : Nat} {F G : Nat → Nat → Bool} (h : CSt w0 w' g cs t gm F) (e : ∀ i j, i < 12 → j < 12 → F i j = G i j) : CSt w0 w' g cs t gm G := ⟨h.m.congr e, h.b, h.bel, h.ge, h.ne⟩
theorem CSt.below {w0 w' w2 : World} {g : Nat} {cs : Array Value} {t : TypeId} {gm : Nat} {F : Nat → Nat → Bool} (h : CSt w0 w' g cs t gm F) (hb : Below w'.heap.size w' w2) : CSt w0 w2 g cs t gm F := ⟨h.m.below hb, blk_below h.b hb, below_step h.bel hb, h.ge, h.ne⟩
theorem CSt.drew {w0 w' : World} {g : Nat} {cs : Array Value} {t : TypeId} {gm : Nat} {F : Nat → Nat → Bool} (h : CSt w0 w' g cs t gm F) : CSt w0 w'.drew g cs t gm F := ⟨h.m, h.b, below_drew1 h.bel, h.ge, h.ne⟩
theorem CSt.far {w0 w' : World} {g : Nat} {cs : Array Value} {t : TypeId} {gm : Nat} {F : Nat → Nat → Bool} (h : CSt w0 w' g cs t gm F) {x : Addr} (h1 : gm ≠ x.block) (h2 : g ≠ x.block) (h3 : w0.heap.size ≤ x.block) (v : Value) : CSt w0 (w'.setCell x v) g cs t gm F :=
  ⟨h.m.far h1 v, blk_far h.b h2 v, h.bel.setCell h3 v, h.ge, h.ne⟩
theorem CSt.set {w0 w' : World} {g : Nat} {cs : Array Value} {t : TypeId} {gm : Nat} {F : Nat → Nat → Bool} (h : CSt w0 w' g cs t gm F) (i j : Nat) (hi : i < 12) (hj : j < 12) (b : Bool) : CSt w0 (w'.setCell ⟨gm, i * 12 + j, none⟩ (.bool b)) g cs t gm (fun a c => if a = i ∧ c = j then b else F a c) :=
  ⟨h.m.set i j hi hj b, blk_far h.b h.ne _, h.bel.setCell h.ge _, h.ge, h.ne⟩
def fitS (l : List NodeT) : Prop := l.length ≤ 100000000000000 ∧ ∀ x ∈ l, x.f0.length ≤ 100000000000000
theorem rd_node (l : List NodeT) (i : Nat) (h : i < l.length) : rd_T60 l (i : Int) = l[i] := by
  simp [rd_T60, List.getD_eq_getElem?_getD, List.getElem?_eq_getElem h]
theorem rd_int (l : List Int) (i : Nat) (h : i < l.length) : rd l (i : Int) = l[i] := by simp [rd, List.getD, List.getElem?_eq_getElem h]
theorem mat_in {E : Nat → Nat → Bool} {n : Nat} (hE : ∀ a b, E a b = true → a < n ∧ b < n) : ∀ (k a b : Nat), mat E k a b = true → a < n ∧ b < n
  | 0, a, b, h => hE a b h
  | k + 1, a, b, h => by
    rcases mat_cases h with h | h
    · exact mat_in hE k a b h
    · exact ⟨(mat_in hE k a k h.1).1, (mat_in hE k k b h.2).2⟩
theorem edge_in {l : List NodeT} (hs : shapeS l = true) (a b : Nat) (h : edge l a b = true) : a < l.length ∧ b < l.length := by
  by_cases ha : a < l.length
  · refine ⟨ha, ?_⟩
    have := shape_needs l hs a ha (b : Int) ((edge_iff l a b).mp h)
    omega
  · rw [edge_out l a b ha] at h
    exact absurd h (by decide)
theorem mat_none {l : List NodeT} (hs : shapeS l = true) (k a b : Nat) (h : ¬ (a < l.length ∧ b < l.length)) : mat (edge l) k a b = false := by
  cases hm : mat (edge l) k a b with
  | false => rfl
  | true => exact absurd (mat_in (edge_in hs) k a b hm) h
theorem mat_row (E : Nat → Nat → Bool) (k a : Nat) : mat E (k + 1) a k = mat E k a k := by
  rw [mat_step]
  cases mat E k a k <;> rfl
theorem mat_col (E : Nat → Nat → Bool) (k b : Nat) : mat E (k + 1) k b = mat E k k b := by
  rw [mat_step]
  cases mat E k k b <;> simp
theorem cyc_at (l : List NodeT) (i : Nat) (hi : i < l.length) (h : mat (edge l) l.length i i = true) : cycS l = true := by
  unfold cycS
  rw [List.any_eq_true]
  exact ⟨i, List.mem_range.mpr hi, h⟩
theorem cyc_none (l : List NodeT) (h : ∀ i, i < l.length → mat (edge l) l.length i i = false) : cycS l = false := by
  unfold cycS
  rw [List.any_eq_false]
  intro i hi
  rw [h i (List.mem_range.mp hi)]
  decide
theorem needs_len (i many : Int) : ∀ (r : List Int) (last : Int), needsOk i many last r = true → last < many → (r.length : Int) + last < many
  | [], last, _, h => by simpa using h
  | k :: r, last, h, hm => by
    simp only [needsOk, Bool.and_eq_true, decide_eq_true_eq] at h
    have := needs_len i many r k h.2.2.2 h.2.1
    simp only [List.length_cons]
    omega
theorem shape_len (l : List NodeT) (hs : shapeS l = true) (i : Nat) (hi : i < l.length) : l[i].f0.length ≤ l.length := by
  have := shapeFrom_at _ l 0 hs i hi
  simp only [nodeOk, Bool.and_eq_true] at this
  have := needs_len _ _ _ _ this.2 (by omega)
  omega
end Go.Proofs.Ytbiphljdommacaa.R

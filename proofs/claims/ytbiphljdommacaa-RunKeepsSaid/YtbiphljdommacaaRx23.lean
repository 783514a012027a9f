/- A square of bools in memory; a list of marks. -/
import Derived.Test.YtbiphljdommacaaRD1
import Derived.Test.YtbiphljdommacaaS3
import Derived.Test.YtbiphljdommacaaSh
import Derived.Test.YtbiphljdommacaaRx6
namespace Go.Proofs.Ytbiphljdommacaa.R
open Go.RowKit Go.Proofs.YtbiphljdommacaaW.PrintWords Go.Proofs.YtbiphljdommacaaW.PrintLast Go.Proofs.YtbiphljdommacaaW.PrintMore Go.Proofs.Ytbiphljdommacaa.Plain
set_option linter.unusedVariables false
set_option linter.unusedSimpArgs false
/-- A square of twelve by twelve bools in a block. -/
def MSt (w : World) (g : Nat) (F : Nat → Nat → Bool) : Prop := g < w.heap.size ∧ (∀ i j, i < 12 → j < 12 → w.cell? ⟨g, i * 12 + j, none⟩ = some (.bool (F i j))) ∧ (∀ i j, i < 12 → j < 12 → w.frozen? ⟨g, i * 12 + j, none⟩ = false)
theorem MSt.cell {w : World} {g : Nat} {F : Nat → Nat → Bool} (h : MSt w g F) (i j : Nat) (hi : i < 12) (hj : j < 12) : w.cell? ⟨g, i * 12 + j, none⟩ = some (.bool (F i j)) := h.2.1 i j hi hj
theorem MSt.fr {w : World} {g : Nat} {F : Nat → Nat → Bool} (h : MSt w g F) (i j : Nat) (hi : i < 12) (hj : j < 12) : w.frozen? ⟨g, i * 12 + j, none⟩ = false := h.2.2 i j hi hj
theorem MSt.congr {w : World} {g : Nat} {F G : Nat → Nat → Bool} (h : MSt w g F) (e : ∀ i j, i < 12 → j < 12 → F i j = G i j) : MSt w g G := ⟨h.1, fun i j hi hj => by rw [← e i j hi hj]; exact h.2.1 i j hi hj, h.2.2⟩
theorem MSt.below {w w' : World} {g : Nat} {F : Nat → Nat → Bool} (h : MSt w g F) (hb : Below w.heap.size w w') : MSt w' g F :=
  ⟨Nat.lt_of_lt_of_le h.1 hb.size, fun i j hi hj => (hb.cell (p := ⟨g, i * 12 + j, none⟩) h.1).trans (h.2.1 i j hi hj), fun i j hi hj => (hb.frozen (p := ⟨g, i * 12 + j, none⟩) h.1).trans (h.2.2 i j hi hj)⟩
theorem MSt.drew {w : World} {g : Nat} {F : Nat → Nat → Bool} (h : MSt w g F) : MSt w.drew g F := h
theorem MSt.set {w : World} {g : Nat} {F : Nat → Nat → Bool} (h : MSt w g F) (i j : Nat) (hi : i < 12) (hj : j < 12) (b : Bool) : MSt (w.setCell ⟨g, i * 12 + j, none⟩ (.bool b)) g (fun a c => if a = i ∧ c = j then b else F a c) := by
  refine ⟨?_, fun a c ha hc => ?_, fun a c ha hc => ?_⟩
  · rw [World.size_setCell]; exact h.1
  · show _ = some (Value.bool (if a = i ∧ c = j then b else F a c))
    by_cases e : a = i ∧ c = j
    · rw [if_pos e, e.1, e.2]
      exact World.cell?_setCell_same w _ _ (h.2.1 i j hi hj)
    · rw [if_neg e, World.cell?_setCell_other (h := show (⟨g, i * 12 + j, none⟩ : Addr) ≠ ⟨g, a * 12 + c, none⟩ from fun e2 => by
        injection e2 with _ e2 _
        exact e ⟨by omega, by omega⟩)]
      exact h.2.1 a c ha hc
  · rw [World.frozen?_setCell]
    exact h.2.2 a c ha hc
theorem MSt.new {w : World} {g : Nat} (h : w.heap[g]? = some (.cells (Array.replicate 144 (.bool false)) 73 (0, 0))) : MSt w g (fun _ _ => false) := by
  have hlt : g < w.heap.size := (Array.getElem?_eq_some_iff.1 h).1
  refine ⟨hlt, fun i j hi hj => ?_, fun i j hi hj => ?_⟩
  · simp only [World.cell?, h]
    show (Array.replicate 144 (Value.bool false))[i * 12 + j]? = some (Value.bool false)
    rw [Array.getElem?_replicate, if_pos (by omega)]
  · simp only [World.frozen?, h]
    simp
theorem MSt.far {w : World} {g : Nat} {F : Nat → Nat → Bool} (h : MSt w g F) {x : Addr} (hx : g ≠ x.block) (v : Value) : MSt (w.setCell x v) g F := by
  refine ⟨?_, fun i j hi hj => ?_, fun i j hi hj => ?_⟩
  · rw [World.size_setCell]; exact h.1
  · rw [World.cell?_setCell_other (h := show x ≠ ⟨g, i * 12 + j, none⟩ from fun e => hx (by rw [e]))]
    exact h.2.1 i j hi hj
  · rw [World.frozen?_setCell]
    exact h.2.2 i j hi hj
/-- The square beside the box of the argument, and all that stood before. -/
structure CSt (w0 w' : World) (g : Nat) (cs : Array Value) (t : TypeId) (gm : Nat) (F : Nat → Nat → Bool) : Prop where
  m : MSt w' gm F
  b : w'.heap[g]? = some (.cells cs t (0, 0))
  bel : Below w0.heap.size w0 w'
  ge : w0.heap.size ≤ gm
  ne : g ≠ gm
theorem CSt.congr {w0 w' : World} {g : Nat} {cs : Array Value} {t : TypeId} {gm : Nat} {F G : Nat → Nat → Bool} (h : CSt w0 w' g cs t gm F) (e : ∀ i j, i < 12 → j < 12 → F i j = G i j) : CSt w0 w' g cs t gm G := ⟨h.m.congr e, h.b, h.bel, h.ge, h.ne⟩
theorem CSt.below {w0 w' w2 : World} {g : Nat} {cs : Array Value} {t : TypeId} {gm : Nat} {F : Nat → Nat → Bool} (h : CSt w0 w' g cs t gm F) (hb : Below w'.heap.size w' w2) : CSt w0 w2 g cs t gm F := ⟨h.m.below hb, blk_below h.b hb, below_step h.bel hb, h.ge, h.ne⟩
theorem CSt.drew {w0 w' : World} {g : Nat} {cs : Array Value} {t : TypeId} {gm : Nat} {F : Nat → Nat → Bool} (h : CSt w0 w' g cs t gm F) : CSt w0 w'.drew g cs t gm F := ⟨h.m, h.b, below_drew1 h.bel, h.ge, h.ne⟩
theorem CSt.far {w0 w' : World} {g : Nat} {cs : Array Value} {t : TypeId} {gm : Nat} {F : Nat → Nat → Bool} (h : CSt w0 w' g cs t gm F) {x : Addr} (h1 : gm ≠ x.block) (h2 : g ≠ x.block) (h3 : w0.heap.size ≤ x.block) (v : Value) : CSt w0 (w'.setCell x v) g cs t gm F :=
  ⟨h.m.far h1 v, blk_far h.b h2 v, h.bel.setCell h3 v, h.ge, h.ne⟩
theorem CSt.set {w0 w' : World} {g : Nat} {cs : Array Value} {t : TypeId} {gm : Nat} {F : Nat → Nat → Bool} (h : CSt w0 w' g cs t gm F) (i j : Nat) (hi : i < 12) (hj : j < 12) (b : Bool) : CSt w0 (w'.setCell ⟨gm, i * 12 + j, none⟩ (.bool b)) g cs t gm (fun a c => if a = i ∧ c = j then b else F a c) :=
  ⟨h.m.set i j hi hj b, blk_far h.b h.ne _, h.bel.setCell h.ge _, h.ge, h.ne⟩
def fitS (l : List NodeT) : Prop := l.length ≤ 100000000000000 ∧ ∀ x ∈ l, x.f0.length ≤ 100000000000000
theorem rd_node (l : List NodeT) (i : Nat) (h : i < l.length) : rd_T60 l (i : Int) = l[i] := by
  simp [rd_T60, List.getD_eq_getElem?_getD, List.getElem?_eq_getElem h]
theorem rd_int (l : List Int) (i : Nat) (h : i < l.length) : rd l (i : Int) = l[i] := by simp [rd, List.getD, List.getElem?_eq_getElem h]
theorem mat_in {E : Nat → Nat → Bool} {n : Nat} (hE : ∀ a b, E a b = true → a < n ∧ b < n) : ∀ (k a b : Nat), mat E k a b = true → a < n ∧ b < n
  | 0, a, b, h => hE a b h
  | k + 1, a, b, h => by
    rcases mat_cases h with h | h
    · exact mat_in hE k a b h
    · exact ⟨(mat_in hE k a k h.1).1, (mat_in hE k k b h.2).2⟩
theorem edge_in {l : List NodeT} (hs : shapeS l = true) (a b : Nat) (h : edge l a b = true) : a < l.length ∧ b < l.length := by
  by_cases ha : a < l.length
  · refine ⟨ha, ?_⟩
    have := shape_needs l hs a ha (b : Int) ((edge_iff l a b).mp h)
    omega
  · rw [edge_out l a b ha] at h
    exact absurd h (by decide)
theorem mat_none {l : List NodeT} (hs : shapeS l = true) (k a b : Nat) (h : ¬ (a < l.length ∧ b < l.length)) : mat (edge l) k a b = false := by
  cases hm : mat (edge l) k a b with
  | false => rfl
  | true => exact absurd (mat_in (edge_in hs) k a b hm) h
theorem mat_row (E : Nat → Nat → Bool) (k a : Nat) : mat E (k + 1) a k = mat E k a k := by
  rw [mat_step]
  cases mat E k a k <;> rfl
theorem mat_col (E : Nat → Nat → Bool) (k b : Nat) : mat E (k + 1) k b = mat E k k b := by
  rw [mat_step]
  cases mat E k k b <;> simp
theorem cyc_at (l : List NodeT) (i : Nat) (hi : i < l.length) (h : mat (edge l) l.length i i = true) : cycS l = true := by
  unfold cycS
  rw [List.any_eq_true]
  exact ⟨i, List.mem_range.mpr hi, h⟩
theorem cyc_none (l : List NodeT) (h : ∀ i, i < l.length → mat (edge l) l.length i i = false) : cycS l = false := by
  unfold cycS
  rw [List.any_eq_false]
  intro i hi
  rw [h i (List.mem_range.mp hi)]
  decide
theorem needs_len (i many : Int) : ∀ (r : List Int) (last : Int), needsOk i many last r = true → last < many → (r.length : Int) + last < many
  | [], last, _, h => by simpa using h
  | k :: r, last, h, hm => by
    simp only [needsOk, Bool.and_eq_true, decide_eq_true_eq] at h
    have := needs_len i many r k h.2.2.2 h.2.1
    simp only [List.length_cons]
    omega
theorem shape_len (l : List NodeT) (hs : shapeS l = true) (i : Nat) (hi : i < l.length) : l[i].f0.length ≤ l.length := by
  have := shapeFrom_at _ l 0 hs i hi
  simp only [nodeOk, Bool.and_eq_true] at this
  have := needs_len _ _ _ _ this.2 (by omega)
  omega
end Go.Proofs.Ytbiphljdommacaa.R
namespace Go.Proofs.Ytbiphljdommacaa.R
open Go.RowKit Go.Proofs.Ytbiphljdommacaa.S3 Go.Proofs.Ytbiphljdommacaa.Sh Go.Proofs.Ytbiphljdommacaa.Co Go.Proofs.Ytbiphljdommacaa.Ret Go.Proofs.Ytbiphljdommacaa.Plain Go.Proofs.YtbiphljdommacaaW.PrintWords Go.Proofs.YtbiphljdommacaaW.PrintLast Go.Proofs.YtbiphljdommacaaW.PrintMore Go.Proofs.Ytbiphljdommacaa.Ti
attribute [local go_sem] max2_int min2_int max_two min_two max_three min_three max_four min_four   -- for this text's walks alone
set_option linter.unusedVariables false
set_option linter.unusedSimpArgs false

/-! ### dag_shaped: function 48 -/
mutual
def dag_shaped.j0 : Nat → Int → Int → Bool → List Int → Int → Int → Option (Bool)
 | 0, _, _, _, _, _, _ => none
 | k + 1, x0, x1, x27, x244000, x244001, x244002 => if x27 = true then (some false) else (dag_shaped.l0 k x0 x1 (-1) x244000 (x244000.length : Int) 0)
def dag_shaped.l0 : Nat → Int → Int → Int → List Int → Int → Int → Option (Bool)
 | 0, _, _, _, _, _, _ => none
 | k + 1, x0, x1, x7, x29, x30, x31 => if x31 < x30 then (if 0 ≤ x31 then (if x31 < (x29.length : Int) then (if (rd x29 x31) ≤ x7 then (some false) else (if (rd x29 x31) ≥ x1 then (some false) else (if (rd x29 x31) = x0 then (some false) else (dag_shaped.l0 k x0 x1 (rd x29 x31) x29 x30 (wrap64 (x31 + 1)))))) else (none)) else (none)) else (some true)
end
def dag_shaped.f (k : Nat) (a0 : Int) (a1 : Int) (l2_0 : List Int) (a2_1 : Int) (a2_2 : Int) : Option (Bool) := if a2_1 < 1 then (dag_shaped.j0 k a0 a1 true l2_0 a2_1 a2_2) else (if a2_1 > 5 then (dag_shaped.j0 k a0 a1 true l2_0 a2_1 a2_2) else (if a2_2 < 0 then (dag_shaped.j0 k a0 a1 true l2_0 a2_1 a2_2) else (dag_shaped.j0 k a0 a1 (decide (a2_2 > 1048576)) l2_0 a2_1 a2_2)))
theorem dag_shaped.mono_l : ∀ k, (∀ y0 y1 y2 y3 y4 y5, LeO (dag_shaped.j0 k y0 y1 y2 y3 y4 y5) (dag_shaped.j0 (k + 1) y0 y1 y2 y3 y4 y5)) ∧ (∀ y0 y1 y2 y3 y4 y5, LeO (dag_shaped.l0 k y0 y1 y2 y3 y4 y5) (dag_shaped.l0 (k + 1) y0 y1 y2 y3 y4 y5))
 | 0 => ⟨fun _ _ _ _ _ _ r h => by simp [dag_shaped.j0] at h, fun _ _ _ _ _ _ r h => by simp [dag_shaped.l0] at h⟩
 | k + 1 => by
  obtain ⟨ih0, ih1⟩ := dag_shaped.mono_l k
  refine ⟨?_, ?_⟩
  ·
   intro y0 y1 y2 y3 y4 y5
   unfold dag_shaped.j0
   repeat' first
   | (with_reducible exact LeO.refl _)
   | (with_reducible refine LeO.ite ?_ ?_)
   | (with_reducible refine LeO.bind ?_ (fun _ => ?_))
   | exact ih0 _ _ _ _ _ _
   | exact ih1 _ _ _ _ _ _
   | exact LeO.none _
   | refine LeO.ite ?_ ?_
   | refine LeO.bind ?_ (fun _ => ?_)
  ·
   intro y0 y1 y2 y3 y4 y5
   unfold dag_shaped.l0
   repeat' first
   | (with_reducible exact LeO.refl _)
   | (with_reducible refine LeO.ite ?_ ?_)
   | (with_reducible refine LeO.bind ?_ (fun _ => ?_))
   | exact ih0 _ _ _ _ _ _
   | exact ih1 _ _ _ _ _ _
   | exact LeO.none _
   | refine LeO.ite ?_ ?_
   | refine LeO.bind ?_ (fun _ => ?_)
theorem dag_shaped.mono : ∀ a0 a1 a2 a3 a4 k, LeO (dag_shaped.f k a0 a1 a2 a3 a4) (dag_shaped.f (k + 1) a0 a1 a2 a3 a4) := by
 intro a0 a1 a2 a3 a4 k
 obtain ⟨ih0, ih1⟩ := dag_shaped.mono_l k
 unfold dag_shaped.f
 repeat' first
   | (with_reducible exact LeO.refl _)
   | (with_reducible refine LeO.ite ?_ ?_)
   | (with_reducible refine LeO.bind ?_ (fun _ => ?_))
   | exact ih0 _ _ _ _ _ _
   | exact ih1 _ _ _ _ _ _
   | exact LeO.none _
   | refine LeO.ite ?_ ?_
   | refine LeO.bind ?_ (fun _ => ?_)
set_option maxHeartbeats 8000000 in
set_option maxRecDepth 100000 in
theorem dag_shaped.calls (k : Nat) (a0 : Int) (a1 : Int) (A2_0 : Option Addr) (c2_0 : Nat) (l2_0 : List Int) (a2_1 : Int) (a2_2 : Int) (r : Bool) (w : World) (hr2_0 : Kd.C (Kd.int .i64) w A2_0 l2_0.length l2_0) (hc2_0 : l2_0.length ≤ c2_0) (h : dag_shaped.f k a0 a1 l2_0 a2_1 a2_2 = some r) :
  Calls Try.prog 48 #[.int .i64 a0, .int .i64 a1, .agg #[.slice A2_0 l2_0.length c2_0, .int .i64 a2_1, .int .i64 a2_2]] w fun e w' => e = .returned (.bool r) ∧ Below w.heap.size w w' := by
 have hu60 := Try.underlying60; have HR2_0 := A_ hr2_0; have HC2_0 := A_ hc2_0; clear hr2_0 hc2_0; have HB := A_ (Below.refl w.heap.size w); have H : (if a2_1 < 1 then (dag_shaped.j0 k a0 a1 true l2_0 a2_1 a2_2) else (if a2_1 > 5 then (dag_shaped.j0 k a0 a1 true l2_0 a2_1 a2_2) else (if a2_2 < 0 then (dag_shaped.j0 k a0 a1 true l2_0 a2_1 a2_2) else (dag_shaped.j0 k a0 a1 (decide (a2_2 > 1048576)) l2_0 a2_1 a2_2)))) = some r := h; clear h; have HC4 := Aside0.mk H; clear H
 go_enter Try.func48, Try.ntmps48
 go_upto_region 1 with (first | ((with_reducible refine gd_ 5 rfl ?_); refine by0_ 5 #[.slice A2_0 l2_0.length c2_0, .int .i64 a2_1, .int .i64 a2_2] 60 ?_; clear HB; intro gb243 w5 BK243 GE243 HB; have GW243 := GE243))
 (try simp only [Act.put, sa_, s0_, s1_])
 go_cut [27] (fun v27 wc => ∃ (kq : Nat) (x27_3 : Bool), v27 = .bool x27_3 ∧ Aside0 (dag_shaped.j0 kq a0 a1 x27_3 l2_0 a2_1 a2_2 = some r) ∧ Aside0 (kq ≤ k) ∧ Aside0 (wc.heap[gb243]? = some (.cells #[(.slice A2_0 l2_0.length c2_0), .int .i64 a2_1, .int .i64 a2_2] 60 (0, 0))) ∧ Aside0 (Below w.heap.size w wc))
 case first =>
  have H := HC4.out; clear HC4
  by_cases c6 : a2_1 < 1
  ·
   rw [if_pos c6] at H; have c6b0 : decide (a2_1 < 1) = true := decide_eq_true c6; clear c6
   (first | rw [c6b0] | (simp only [i64_w, i32_w]; rw [c6b0]) | skip)
   have H' := Aside0.mk H; clear H; have hz7 := cz3_ BK243
   go_wp2
   go_meet
   case rel => exact ⟨_, (true), rl_, H', ⟨le_⟩, ⟨bY_ BK243⟩, ⟨hb_⟩⟩
  ·
   rw [if_neg c6] at H; have c6b0 : decide (a2_1 < 1) = false := decide_eq_false c6; clear c6
   (first | rw [c6b0] | (simp only [i64_w, i32_w]; rw [c6b0]) | skip)
   by_cases c8 : a2_1 > 5
   ·
    rw [if_pos c8] at H; have c8b0 : decide (5 < a2_1) = true := decide_eq_true c8; clear c8; have H' := Aside0.mk H; clear H; have hz9 := cz3_ BK243
    go_wp2
    go_meet
    case rel => exact ⟨_, (true), rl_, H', ⟨le_⟩, ⟨bY_ BK243⟩, ⟨hb_⟩⟩
   ·
    rw [if_neg c8] at H; have c8b0 : decide (5 < a2_1) = false := decide_eq_false c8; clear c8
    by_cases c10 : a2_2 < 0
    ·
     rw [if_pos c10] at H; have c10b0 : decide (a2_2 < 0) = true := decide_eq_true c10; clear c10; have H' := Aside0.mk H; clear H; have hz11 := cz3_ BK243
     go_wp2
     go_meet
     case rel => exact ⟨_, (true), rl_, H', ⟨le_⟩, ⟨bY_ BK243⟩, ⟨hb_⟩⟩
    ·
     rw [if_neg c10] at H; have c10b0 : decide (a2_2 < 0) = false := decide_eq_false c10; clear c10; have H' := Aside0.mk H; clear H; have hz12 := cz3_ BK243
     go_wp2
     go_meet
     case rel => exact ⟨_, (decide (a2_2 > 1048576)), rl_, H', ⟨le_⟩, ⟨bY_ BK243⟩, ⟨hb_⟩⟩
 case rest =>
  clear HC4; (try clear c6); (try clear c6b0); (try clear c8); (try clear c8b0); (try clear c10); (try clear c10b0); (try clear hz11); (try clear hz12); (try clear hz7); (try clear hz9); obtain ⟨kq, x27_3, rfl, HA, HJ3, BK243, HB⟩ := hcut
  cases kq with
  | zero => exact absurd HA.out (by simp [dag_shaped.j0])
  | succ kj3 =>
   have H := HA.out; clear HA; simp only [dag_shaped.j0] at H
   by_cases c13 : x27_3 = true
   ·
    subst c13; have H1 : (some false) = some r := by rw [if_pos rfl] at H; exact H
    clear H; have H := H1; clear H1; obtain rfl := Option.some.inj H
    go_wp2
    go_ret
    exact ⟨re_, hb_⟩
   ·
    replace c13 := Bool.eq_false_iff.mpr c13; subst c13; have H1 : (dag_shaped.l0 kj3 a0 a1 (-1) l2_0 (l2_0.length : Int) 0) = some r := by rw [if_neg (show ¬ (false = true) by decide)] at H; exact H
    clear H; have H := H1; clear H1; have H' := Aside0.mk H; clear H; have hz14 := cz3_ BK243
    go_wp2
    go_loopg [7, 31] kj3 (fun kq v7 v31 w' => ∃ (x7_2 : Int) (x31_2 : Int), v7 = .int .i64 x7_2 ∧ v31 = .int .i64 x31_2 ∧ Aside0 (dag_shaped.l0 kq a0 a1 x7_2 l2_0 (l2_0.length : Int) x31_2 = some r) ∧ Aside0 (kq ≤ kj3) ∧ Aside0 (w'.heap[gb243]? = some (.cells #[(.slice A2_0 l2_0.length c2_0), .int .i64 a2_1, .int .i64 a2_2] 60 (0, 0))) ∧ Aside0 (Below w.heap.size w w'))
    case atStart => exact ⟨((-1)), (0), rl_, rl_, H', ⟨Nat.le_refl _⟩, ⟨bY_ BK243⟩, ⟨hb_⟩⟩
    case round =>
     clear H'; (try clear c6); (try clear c6b0); (try clear c8); (try clear c8b0); (try clear c10); (try clear c10b0); (try clear c13); (try clear hz11); (try clear hz12); (try clear hz14); (try clear hz7); (try clear hz9); obtain ⟨x7_2, x31_2, rfl, rfl, HA, HK2, BK243, HB⟩ := hrel
     cases gk with
     | zero => exact absurd HA.out (by simp [dag_shaped.l0])
     | succ k2 =>
      have H := HA.out; clear HA; simp only [dag_shaped.l0] at H
      by_cases c15 : x31_2 < (l2_0.length : Int)
      ·
       rw [if_pos c15] at H; have c15b0 : decide (x31_2 < (l2_0.length : Int)) = true := decide_eq_true c15; clear c15
       by_cases c16 : 0 ≤ x31_2
       ·
        rw [if_pos c16] at H; have c16b0 : decide (0 ≤ x31_2) = true := decide_eq_true c16; clear c16
        by_cases c17 : x31_2 < (l2_0.length : Int)
        ·
         rw [if_pos c17] at H; have c17b0 : decide (x31_2 < (l2_0.length : Int)) = true := decide_eq_true c17; clear c17
         by_cases c18 : (rd l2_0 x31_2) ≤ x7_2
         ·
          rw [if_pos c18] at H; have c18b0 : decide ((rd l2_0 x31_2) ≤ x7_2) = true := decide_eq_true c18; clear c18; obtain rfl := Option.some.inj H; have p244 : 0 ≤ (x31_2 : Int) := od_; have q244 : x31_2 < (l2_0.length : Int) := od_; obtain ⟨ad244, e244, hx244_0⟩ := Kd.at_int HR2_0.out x31_2 p244 q244
          cases e244
          replace hx244_0 := cl_ HB.out hx244_0; replace p244 := eq_true p244; replace q244 := eq_true q244
          go_wp2
          go_ret
          exact ⟨re_, hb_⟩
         ·
          rw [if_neg c18] at H; have c18b0 : decide ((rd l2_0 x31_2) ≤ x7_2) = false := decide_eq_false c18; clear c18
          by_cases c19 : (rd l2_0 x31_2) ≥ a1
          ·
           rw [if_pos c19] at H; have c19b0 : decide (a1 ≤ (rd l2_0 x31_2)) = true := decide_eq_true c19; clear c19; obtain rfl := Option.some.inj H; have p244 : 0 ≤ (x31_2 : Int) := od_; have q244 : x31_2 < (l2_0.length : Int) := od_; obtain ⟨ad244, e244, hx244_0⟩ := Kd.at_int HR2_0.out x31_2 p244 q244
           cases e244
           replace hx244_0 := cl_ HB.out hx244_0; replace p244 := eq_true p244; replace q244 := eq_true q244
           go_wp2
           go_ret
           exact ⟨re_, hb_⟩
          ·
           rw [if_neg c19] at H; have c19b0 : decide (a1 ≤ (rd l2_0 x31_2)) = false := decide_eq_false c19; clear c19
           by_cases c20 : (rd l2_0 x31_2) = a0
           ·
            rw [if_pos c20] at H; have c20b0 : ((rd l2_0 x31_2) == a0) = true := beq_iff_eq.mpr c20; have c20b1 : ((rd l2_0 x31_2) != a0) = false := bne_eq_false_iff_eq.mpr c20; clear c20; obtain rfl := Option.some.inj H; have p244 : 0 ≤ (x31_2 : Int) := od_; have q244 : x31_2 < (l2_0.length : Int) := od_; obtain ⟨ad244, e244, hx244_0⟩ := Kd.at_int HR2_0.out x31_2 p244 q244
            cases e244
            replace hx244_0 := cl_ HB.out hx244_0; replace p244 := eq_true p244; replace q244 := eq_true q244
            go_wp2
            go_ret
            exact ⟨re_, hb_⟩
           ·
            rw [if_neg c20] at H; have c20b0 : ((rd l2_0 x31_2) == a0) = false := beq_eq_false_iff_ne.mpr c20; have c20b1 : ((rd l2_0 x31_2) != a0) = true := bne_iff_ne.mpr c20; have H' := Aside0.mk H; clear H; have p244 : 0 ≤ (x31_2 : Int) := od_; have q244 : x31_2 < (l2_0.length : Int) := od_; obtain ⟨ad244, e244, hx244_0⟩ := Kd.at_int HR2_0.out x31_2 p244 q244
            cases e244
            replace hx244_0 := cl_ HB.out hx244_0; replace p244 := eq_true p244; replace q244 := eq_true q244
            go_wp2
            go_roundg k2
            case measure => have := HJ3.out; have := HK2.out; omega
            case rel => exact ⟨(rd l2_0 x31_2), (wrap64 (x31_2 + 1)), rl_, rl_, H', ⟨by have := HJ3.out; have := HK2.out; omega⟩, ⟨bY_ BK243⟩, ⟨hb_⟩⟩
        ·
         rw [if_neg c17] at H; exact absurd H (by simp)
       ·
        rw [if_neg c16] at H; exact absurd H (by simp)
      ·
       rw [if_neg c15] at H; have c15b0 : decide (x31_2 < (l2_0.length : Int)) = false := decide_eq_false c15; clear c15; obtain rfl := Option.some.inj H
       go_wp2
       go_ret
       exact ⟨re_, hb_⟩

end Go.Proofs.Ytbiphljdommacaa.R

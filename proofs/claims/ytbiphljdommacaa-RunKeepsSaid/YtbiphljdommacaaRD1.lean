/- Contracts of Go functions and what they come to, over the translation of this seat: made by a program of this session (print2.py). -/
import Derived.Test.YtbiphljdommacaaS3
import Derived.Test.YtbiphljdommacaaSh
import Derived.Test.YtbiphljdommacaaRx6
import Derived.Test.YtbiphljdommacaaRx11
import Derived.Test.YtbiphljdommacaaPlain
namespace Go.Proofs.Ytbiphljdommacaa.R
open Go.RowKit Go.Proofs.Ytbiphljdommacaa.S3 Go.Proofs.Ytbiphljdommacaa.Sh Go.Proofs.Ytbiphljdommacaa.Co Go.Proofs.Ytbiphljdommacaa.Ret Go.Proofs.Ytbiphljdommacaa.Plain Go.Proofs.YtbiphljdommacaaW.PrintWords Go.Proofs.YtbiphljdommacaaW.PrintLast Go.Proofs.YtbiphljdommacaaW.PrintMore Go.Proofs.Ytbiphljdommacaa.Ti
attribute [local go_sem] max2_int min2_int max_two min_two max_three min_three max_four min_four   -- for this text's walks alone
set_option linter.unusedVariables false
set_option linter.unusedSimpArgs false

/-! ### run_Complete_1: function 31 -/
def run_Complete_1.f (k : Nat) (l0_0 : List Int) (a0_1 : Int) (a0_2 : Int) (a1_0 : Int) (a1_1 : Int) (a1_2 : Int) (a1_3 : Int) (a1_4 : Int) (a2 : Int) : Option (Int × Int × Int × Int × Int × Int) := (task_Done.f k l0_0 a0_1 a0_2 a1_0 a1_1 a1_2 a1_3 a1_4 a2).bind fun bt156 => (some (bt156.1, bt156.2.1, bt156.2.2.1, bt156.2.2.2.1, bt156.2.2.2.2.1, bt156.2.2.2.2.2))
theorem run_Complete_1.mono : ∀ a0 a1 a2 a3 a4 a5 a6 a7 a8 k, LeO (run_Complete_1.f k a0 a1 a2 a3 a4 a5 a6 a7 a8) (run_Complete_1.f (k + 1) a0 a1 a2 a3 a4 a5 a6 a7 a8) := by
 intro a0 a1 a2 a3 a4 a5 a6 a7 a8 k
 unfold run_Complete_1.f
 repeat' first
   | (with_reducible exact LeO.refl _)
   | (with_reducible refine LeO.ite ?_ ?_)
   | (with_reducible refine LeO.bind ?_ (fun _ => ?_))
   | exact task_Done.mono _ _ _ _ _ _ _ _ _ _
   | exact LeO.none _
   | refine LeO.ite ?_ ?_
   | refine LeO.bind ?_ (fun _ => ?_)
set_option maxHeartbeats 8000000 in
set_option maxRecDepth 100000 in
theorem run_Complete_1.calls (k : Nat) (A0_0 : Option Addr) (c0_0 : Nat) (l0_0 : List Int) (a0_1 : Int) (a0_2 : Int) (a1_0 : Int) (a1_1 : Int) (a1_2 : Int) (a1_3 : Int) (a1_4 : Int) (a2 : Int) (r1 : Int) (r2 : Int) (r3 : Int) (r4 : Int) (r5 : Int) (r6 : Int) (w : World) (hr0_0 : Kd.C (Kd.int .i64) w A0_0 l0_0.length l0_0) (hc0_0 : l0_0.length ≤ c0_0) (ga2 : Nat) (hbxa2 : w.heap[ga2]? = some (.cells #[.int .i64 a2] 3 (0, 0))) (h : run_Complete_1.f k l0_0 a0_1 a0_2 a1_0 a1_1 a1_2 a1_3 a1_4 a2 = some (r1, r2, r3, r4, r5, r6)) :
  Calls Try.prog 31 #[.agg #[.slice A0_0 l0_0.length c0_0, .int .i64 a0_1, .int .i64 a0_2], .agg #[.int .u8 a1_0, .int .i64 a1_1, .int .i64 a1_2, .int .i64 a1_3, .int .i64 a1_4], .pointer (some ⟨ga2, 0, none⟩)] w fun e w' => e = .returned (.tuple #[.agg #[.int .u8 r1, .int .i64 r2, .int .i64 r3, .int .i64 r4, .int .i64 r5], .int .i64 r6]) ∧ Below w.heap.size w w' := by
 have HBXa2 := A_ hbxa2; clear hbxa2; have hu60 := Try.underlying60; have hu35 := Try.underlying35; have HR0_0 := A_ hr0_0; have HC0_0 := A_ hc0_0; clear hr0_0 hc0_0; have HB := A_ (Below.refl w.heap.size w); have H : ((task_Done.f k l0_0 a0_1 a0_2 a1_0 a1_1 a1_2 a1_3 a1_4 a2).bind fun bt156 => (some (bt156.1, bt156.2.1, bt156.2.2.1, bt156.2.2.2.1, bt156.2.2.2.2.1, bt156.2.2.2.2.2))) = some (r1, r2, r3, r4, r5, r6) := h; clear h; replace H := Option.bind_eq_some_iff.mp H; obtain ⟨⟨t156, t157, t158, t159, t160, t161⟩, A40, H⟩ := H; replace H : (some (t156, t157, t158, t159, t160, t161)) = some (r1, r2, r3, r4, r5, r6) := H; have A4 := Aside0.mk A40; clear A40; simp only [Option.some.injEq, Prod.mk.injEq] at H; obtain ⟨rfl, rfl, rfl, rfl, rfl, rfl⟩ := H
 go_enter Try.func31, Try.ntmps31
 go_wp2_with (first | ((with_reducible refine gd_ 3 rfl ?_); refine by0_ 3 #[.slice A0_0 l0_0.length c0_0, .int .i64 a0_1, .int .i64 a0_2] 60 ?_; clear HB; intro gb153 w5 BK153 GE153 HB; have hqca2_w5 : w5.cell? ⟨ga2, 0, none⟩ = some (.int .i64 a2) := (blk_cell (blk_below (g := ga2) (o := .cells #[.int .i64 a2] 3 (0, 0)) HBXa2.out HB.out) 0).trans rfl) | ((with_reducible refine gd_ 4 rfl ?_); refine by1_ 4 #[.int .u8 a1_0, .int .i64 a1_1, .int .i64 a1_2, .int .i64 a1_3, .int .i64 a1_4] 35 BK153 ?_; clear HB BK153; intro gb154 w6 BK154 GE154 HB NB153_154 NB154_153 BK153; have hqca2_w6 : w6.cell? ⟨ga2, 0, none⟩ = some (.int .i64 a2) := (blk_cell (blk_below (g := ga2) (o := .cells #[.int .i64 a2] 3 (0, 0)) HBXa2.out HB.out) 0).trans rfl) | ((with_reducible refine gd_ 5 rfl ?_); refine by2_ 5 #[.int .u8 0, .int .i64 0, .int .i64 0, .int .i64 0, .int .i64 0] 35 BK153 BK154 ?_; clear HB BK153 BK154; intro gb155 w7 BK155 GE155 HB NB153_155 NB155_153 BK153 NB154_155 NB155_154 BK154; have hnb8 := NB153_154.out; have hnc8 := NB154_153.out; have hz10 := cz3_ BK153; have hz12 := cz5_ BK154; have hqca2_w7 : w7.cell? ⟨ga2, 0, none⟩ = some (.int .i64 a2) := (blk_cell (blk_below (g := ga2) (o := .cells #[.int .i64 a2] 3 (0, 0)) HBXa2.out HB.out) 0).trans rfl) | ((with_reducible refine gc_ 32 rfl ?_); refine gL_ (some 10) Try.func32 #[.agg #[.slice A0_0 l0_0.length c0_0, .int .i64 a0_1, .int .i64 a0_2], .agg #[.int .u8 a1_0, .int .i64 a1_1, .int .i64 a1_2, .int .i64 a1_3, .int .i64 a1_4], .int .i64 a2] ?_; (with_reducible refine (task_Done.calls k _ _ l0_0 a0_1 a0_2 a1_0 a1_1 a1_2 a1_3 a1_4 a2 t156 t157 t158 t159 t160 t161 _ ?side1 ?side2 A4.out).mono ?_); (case side1 => exact cB_ HR0_0); (case side2 => exact HC0_0.out); rintro e w13 ⟨rfl, hb⟩; refine ⟨_, rfl, ?_⟩; replace BK153 := bs_ BK153 hb; replace BK154 := bs_ BK154 hb; replace BK155 := bs_ BK155 hb; replace HB := bB_ hb; (try clear hb); have hz14 := cz5_ BK155))
 refine bodyPost_ret (results_ct rfl _ _ gb155 35 #[.int .u8 t156, .int .i64 t157, .int .i64 t158, .int .i64 t159, .int .i64 t160] (0, 0) _ rfl (bP_ BK155) Try.underlying35 rfl (by kernel_rfl)) rfl ?_
 exact ⟨re_, hb_⟩

end Go.Proofs.Ytbiphljdommacaa.R
namespace Go.Proofs.Ytbiphljdommacaa.R
open Go.RowKit Go.Proofs.YtbiphljdommacaaW.PrintWords Go.Proofs.YtbiphljdommacaaW.PrintLast Go.Proofs.YtbiphljdommacaaW.PrintMore Go.Proofs.Ytbiphljdommacaa.Plain
set_option linter.unusedVariables false
set_option linter.unusedSimpArgs false
abbrev NodeT := S60
/-! ### specs -/
def needsOk (i many : Int) : Int → List Int → Bool
  | _, [] => true
  | last, k :: r => decide (last < k) && (decide (k < many) && (decide (k ≠ i) && needsOk i many k r))
def boundsOk (x : NodeT) : Bool := decide (1 ≤ x.f1 ∧ x.f1 ≤ 5 ∧ 0 ≤ x.f2 ∧ x.f2 ≤ 1048576)
def nodeOk (i many : Int) (x : NodeT) : Bool := boundsOk x && needsOk i many (-1) x.f0
def shapeFrom (many : Int) : Nat → List NodeT → Bool
  | _, [] => true
  | i, x :: r => nodeOk (i : Int) many x && shapeFrom many (i + 1) r
def shapeS (l : List NodeT) : Bool := shapeFrom (l.length : Int) 0 l
def needs (l : List NodeT) (i : Nat) : List Int := ((l[i]?).map (·.f0)).getD []
theorem needs_at (l : List NodeT) (i : Nat) (h : i < l.length) : needs l i = l[i].f0 := by simp [needs, List.getElem?_eq_getElem h]
theorem needsOk_mem (i many : Int) : ∀ (r : List Int) (last : Int), needsOk i many last r = true → ∀ k ∈ r, last < k ∧ k < many ∧ k ≠ i
  | [], _, _, k, hk => by simp at hk
  | a :: r, last, h, k, hk => by
    simp only [needsOk, Bool.and_eq_true, decide_eq_true_eq] at h
    rcases List.mem_cons.mp hk with rfl | hk
    · exact ⟨h.1, h.2.1, h.2.2.1⟩
    · have := needsOk_mem i many r a h.2.2.2 k hk
      exact ⟨by omega, this.2⟩
theorem shapeFrom_at (many : Int) : ∀ (l : List NodeT) (j : Nat), shapeFrom many j l = true → ∀ (i : Nat) (h : i < l.length), nodeOk ((j + i : Nat) : Int) many l[i] = true
  | [], _, _, i, h => by simp at h
  | x :: l, j, hs, i, h => by
    simp only [shapeFrom, Bool.and_eq_true] at hs
    cases i with
    | zero => exact hs.1
    | succ i =>
      have := shapeFrom_at many l (j + 1) hs.2 i (by simpa using h)
      rw [show j + (i + 1) = j + 1 + i by omega]
      exact this
theorem shape_needs (l : List NodeT) (hs : shapeS l = true) (i : Nat) (hi : i < l.length) : ∀ k ∈ needs l i, 0 ≤ k ∧ k < (l.length : Int) ∧ k ≠ (i : Int) := by
  intro k hk
  rw [needs_at l i hi] at hk
  have := shapeFrom_at _ l 0 hs i hi
  simp only [nodeOk, Bool.and_eq_true] at this
  have := needsOk_mem _ _ _ _ this.2 k hk
  rw [show ((0 + i : Nat) : Int) = (i : Int) by omega] at this
  exact ⟨by omega, this.2⟩
def edge (l : List NodeT) (a b : Nat) : Bool := (needs l a).contains (b : Int)
theorem edge_iff (l : List NodeT) (a b : Nat) : edge l a b = true ↔ (b : Int) ∈ needs l a := by simp [edge]

/-! ### what comes behind what -/
def mat (E : Nat → Nat → Bool) : Nat → Nat → Nat → Bool
  | 0 => E
  | k + 1 => fun a b => mat E k a b || (mat E k a k && mat E k k b)
theorem mat_step (E : Nat → Nat → Bool) (k a b : Nat) : mat E (k + 1) a b = (mat E k a b || (mat E k a k && mat E k k b)) := rfl
theorem mat_grow (E : Nat → Nat → Bool) (k a b : Nat) (h : mat E k a b = true) : mat E (k + 1) a b = true := by rw [mat_step, h]; rfl
theorem mat_edge (E : Nat → Nat → Bool) (a b : Nat) (h : E a b = true) : ∀ k, mat E k a b = true
  | 0 => h
  | k + 1 => mat_grow E k a b (mat_edge E a b h k)
theorem mat_cases {E : Nat → Nat → Bool} {k a b : Nat} (h : mat E (k + 1) a b = true) : mat E k a b = true ∨ (mat E k a k = true ∧ mat E k k b = true) := by
  rw [mat_step, Bool.or_eq_true, Bool.and_eq_true] at h
  exact h
theorem mat_mk {E : Nat → Nat → Bool} {k a b : Nat} (h : mat E k a b = true ∨ (mat E k a k = true ∧ mat E k k b = true)) : mat E (k + 1) a b = true := by
  rw [mat_step, Bool.or_eq_true, Bool.and_eq_true]
  exact h
theorem mat_closed (E : Nat → Nat → Bool) : ∀ (K c a b : Nat), c < K → mat E K a c = true → mat E K c b = true → mat E K a b = true
  | 0, c, a, b, h, _, _ => absurd h (by omega)
  | K + 1, c, a, b, h, h1, h2 => by
    have ih := mat_closed E K
    by_cases hc : c = K
    · subst hc
      have e1 : mat E c a c = true := by
        rcases mat_cases h1 with h | h
        · exact h
        · exact h.1
      have e2 : mat E c c b = true := by
        rcases mat_cases h2 with h | h
        · exact h
        · exact h.2
      exact mat_mk (Or.inr ⟨e1, e2⟩)
    · have hc : c < K := by omega
      rcases mat_cases h1 with h1 | h1 <;> rcases mat_cases h2 with h2 | h2
      · exact mat_mk (Or.inl (ih c a b hc h1 h2))
      · exact mat_mk (Or.inr ⟨ih c a K hc h1 h2.1, h2.2⟩)
      · exact mat_mk (Or.inr ⟨h1.1, ih c K b hc h1.2 h2⟩)
      · exact mat_mk (Or.inr ⟨h1.1, h2.2⟩)
theorem mat_rank (E : Nat → Nat → Bool) (r : Nat → Nat) (hr : ∀ a b, E a b = true → r b < r a) : ∀ (k a b : Nat), mat E k a b = true → r b < r a
  | 0, a, b, h => hr a b h
  | k + 1, a, b, h => by
    rcases mat_cases h with h | h
    · exact mat_rank E r hr k a b h
    · have h1 := mat_rank E r hr k a k h.1
      have h2 := mat_rank E r hr k k b h.2
      omega
/-- Where each of some has one behind it among them, one is behind itself. -/
theorem stuck_cycle (M : Nat → Nat → Bool) (n : Nat) (ht : ∀ c a b, c < n → M a c = true → M c b = true → M a b = true) : ∀ (d : Nat) (U : List Nat), U.length ≤ d → U ≠ [] → (∀ u ∈ U, u < n) → (∀ u ∈ U, ∃ v ∈ U, M u v = true) → ∃ u ∈ U, M u u = true
  | 0, U, hd, hne, _, _ => absurd (List.eq_nil_of_length_eq_zero (by omega)) hne
  | d + 1, U, hd, hne, hn, hU => by
    obtain ⟨u, U', rfl⟩ : ∃ u U', U = u :: U' := by
      cases U with
      | nil => exact absurd rfl hne
      | cons u U' => exact ⟨u, U', rfl⟩
    by_cases hu : M u u = true
    · exact ⟨u, by simp, hu⟩
    · obtain ⟨v0, hv0, hm0⟩ := hU u (by simp)
      have hv0n : v0 ≠ u := by rintro rfl; exact hu hm0
      have hv0' : v0 ∈ U'.filter (fun x => decide (x ≠ u)) := by
        rw [List.mem_filter]
        exact ⟨(List.mem_cons.mp hv0).resolve_left hv0n, decide_eq_true hv0n⟩
      have ih := stuck_cycle M n ht d (U'.filter fun x => decide (x ≠ u)) (by
        have := List.length_filter_le (fun x => decide (x ≠ u)) U'
        simp only [List.length_cons] at hd
        omega) (List.ne_nil_of_mem hv0') (fun w hw => hn w (List.mem_cons_of_mem _ (List.mem_filter.mp hw).1)) (fun w hw => by
        have hw' := List.mem_filter.mp hw
        obtain ⟨v, hv, hm⟩ := hU w (List.mem_cons_of_mem _ hw'.1)
        by_cases hvu : v = u
        · subst hvu
          exact ⟨v0, hv0', ht v w v0 (hn v (by simp)) hm hm0⟩
        · exact ⟨v, List.mem_filter.mpr ⟨(List.mem_cons.mp hv).resolve_left hvu, decide_eq_true hvu⟩, hm⟩)
      obtain ⟨w, hw, hm⟩ := ih
      exact ⟨w, List.mem_cons_of_mem _ (List.mem_filter.mp hw).1, hm⟩

/-! ### the order -/
def inN (acc : List Nat) (k : Int) : Bool := acc.any fun a => decide ((a : Int) = k)
theorem inN_iff (acc : List Nat) (k : Int) : inN acc k = true ↔ ∃ a ∈ acc, (a : Int) = k := by simp [inN]
def avail (l : List NodeT) (acc : List Nat) (i : Nat) : Bool := !(acc.contains i) && (needs l i).all (inN acc)
def nextN (l : List NodeT) (acc : List Nat) : Option Nat := (List.range l.length).find? (avail l acc)
def rowGo (l : List NodeT) : Nat → List Nat → List Nat
  | 0, acc => acc
  | f + 1, acc => match nextN l acc with
    | none => acc
    | some i => rowGo l f (acc ++ [i])
def rowN (l : List NodeT) : List Nat := rowGo l l.length []
def und (n : Nat) (acc : List Nat) : List Nat := (List.range n).filter fun i => !(acc.contains i)
theorem filter_less (p q : Nat → Bool) (i : Nat) : ∀ (R : List Nat), R.Nodup → i ∈ R → p i = true → q i = false → (∀ x, x ≠ i → q x = p x) → (R.filter q).length + 1 = (R.filter p).length
  | [], _, h, _, _, _ => by simp at h
  | a :: R, hn, h, hp, hq, hx => by
    have hn' := List.nodup_cons.mp hn
    by_cases ha : a = i
    · subst ha
      have : R.filter q = R.filter p := List.filter_congr fun x hxR => hx x (by rintro rfl; exact hn'.1 hxR)
      rw [List.filter_cons, List.filter_cons, hp, hq, this]
      simp
    · have ih := filter_less p q i R hn'.2 ((List.mem_cons.mp h).resolve_left (fun e => ha e.symm)) hp hq hx
      rw [List.filter_cons, List.filter_cons, hx a ha]
      by_cases hpa : p a = true
      · rw [hpa]
        simp only [if_true, List.length_cons]
        omega
      · simp only [hpa, if_false]
        exact ih
theorem und_step (n : Nat) (acc : List Nat) (i : Nat) (hi : i < n) (h : acc.contains i = false) : (und n (acc ++ [i])).length + 1 = (und n acc).length := by
  refine filter_less _ _ i (List.range n) List.nodup_range (List.mem_range.mpr hi) ?_ ?_ ?_
  · rw [h]; rfl
  · simp
  · intro x hx
    simp only [List.contains_eq_mem, List.mem_append, List.mem_singleton]
    congr 1
    simp [hx]
/-- Each stands behind all that it needs. -/
def Placed (l : List NodeT) (acc : List Nat) : Prop := ∀ p i s, acc = p ++ i :: s → i < l.length ∧ p.contains i = false ∧ ∀ k ∈ needs l i, inN p k = true
theorem placed_nil (l : List NodeT) : Placed l [] := by
  intro p i s h
  exact absurd h (by simp)
theorem next_some {l : List NodeT} {acc : List Nat} {i : Nat} (h : nextN l acc = some i) : i < l.length ∧ acc.contains i = false ∧ ∀ k ∈ needs l i, inN acc k = true := by
  have h1 := List.mem_of_find?_eq_some h
  have h2 := List.find?_some h
  simp only [avail, Bool.and_eq_true, Bool.not_eq_true', List.all_eq_true] at h2
  exact ⟨List.mem_range.mp h1, h2.1, h2.2⟩
theorem placed_step {l : List NodeT} {acc : List Nat} {i : Nat} (hp : Placed l acc) (h : nextN l acc = some i) : Placed l (acc ++ [i]) := by
  intro p j s e
  rcases List.eq_nil_or_concat s with rfl | ⟨s', x, rfl⟩
  · have := List.append_inj' e (by simp)
    obtain ⟨rfl, h2⟩ := this
    injection h2 with h2 _
    subst h2
    exact next_some h
  · rw [List.concat_eq_append, ← List.cons_append, ← List.append_assoc] at e
    have := List.append_inj' e (by simp)
    exact hp p j s' this.1
theorem row_go (l : List NodeT) : ∀ (f : Nat) (acc : List Nat), Placed l acc → (und l.length acc).length + acc.length = l.length → acc.length + f = l.length →
    Placed l (rowGo l f acc) ∧ (und l.length (rowGo l f acc)).length + (rowGo l f acc).length = l.length ∧ ((rowGo l f acc).length = l.length ∨ nextN l (rowGo l f acc) = none)
  | 0, acc, hp, hu, hf => ⟨hp, hu, Or.inl (by show acc.length = _; omega)⟩
  | f + 1, acc, hp, hu, hf => by
    rw [rowGo]
    cases hn : nextN l acc with
    | none => exact ⟨hp, hu, Or.inr hn⟩
    | some i =>
      obtain ⟨h1, h2, _⟩ := next_some hn
      have := und_step l.length acc i h1 h2
      exact row_go l f (acc ++ [i]) (placed_step hp hn) (by rw [List.length_append]; simp; omega) (by rw [List.length_append]; simp; omega)
theorem row_all (l : List NodeT) : Placed l (rowN l) ∧ (und l.length (rowN l)).length + (rowN l).length = l.length ∧ ((rowN l).length = l.length ∨ nextN l (rowN l) = none) :=
  row_go l l.length [] (placed_nil l) (by
    have : und l.length [] = List.range l.length := List.filter_eq_self.mpr (fun _ _ => rfl)
    rw [this]
    simp) (by simp)
theorem row_full {l : List NodeT} (h : (rowN l).length = l.length) (i : Nat) (hi : i < l.length) : (rowN l).contains i = true := by
  have h1 := (row_all l).2.1
  have h2 : und l.length (rowN l) = [] := List.eq_nil_of_length_eq_zero (by omega)
  cases hc : (rowN l).contains i with
  | true => rfl
  | false =>
    have : i ∈ und l.length (rowN l) := List.mem_filter.mpr ⟨List.mem_range.mpr hi, by rw [hc]; rfl⟩
    rw [h2] at this
    exact absurd this (by simp)
/-- The place of a number in a list. -/
def placeOf (x : Nat) : List Nat → Nat
  | [] => 0
  | y :: l => if y = x then 0 else placeOf x l + 1
theorem place_split (x : Nat) : ∀ l : List Nat, l.contains x = true → ∃ p s, l = p ++ x :: s ∧ placeOf x l = p.length ∧ p.contains x = false
  | [], h => by simp at h
  | y :: l, h => by
    by_cases hy : y = x
    · subst hy
      exact ⟨[], l, rfl, by simp [placeOf], rfl⟩
    · have h' : l.contains x = true := by
        simp only [List.contains_eq_mem, List.mem_cons, decide_eq_true_eq] at h ⊢
        exact h.resolve_left (fun e => hy e.symm)
      obtain ⟨p, s, e1, e2, e3⟩ := place_split x l h'
      refine ⟨y :: p, s, by rw [e1]; rfl, by simp [placeOf, hy, e2], ?_⟩
      simp only [List.contains_eq_mem, List.mem_cons, decide_eq_false_iff_not] at e3 ⊢
      rintro (e | e)
      · exact hy e.symm
      · exact e3 e
theorem place_lt (x : Nat) : ∀ (p s : List Nat), p.contains x = true → placeOf x (p ++ s) < p.length
  | [], s, h => by simp at h
  | y :: p, s, h => by
    rw [List.cons_append, placeOf]
    by_cases hy : y = x
    · rw [if_pos hy]; simp
    · rw [if_neg hy]
      have := place_lt x p s (by
        simp only [List.contains_eq_mem, List.mem_cons, decide_eq_true_eq] at h ⊢
        exact h.resolve_left (fun e => hy e.symm))
      simp only [List.length_cons]
      omega
theorem inN_nat (acc : List Nat) (b : Nat) : inN acc (b : Int) = acc.contains b := by
  rw [Bool.eq_iff_iff, inN_iff]
  simp only [List.contains_eq_mem, decide_eq_true_eq]
  constructor
  · rintro ⟨a, ha, e⟩
    have : a = b := by omega
    exact this ▸ ha
  · exact fun h => ⟨b, h, rfl⟩
theorem row_rank {l : List NodeT} (h : (rowN l).length = l.length) (a b : Nat) (ha : a < l.length) (he : edge l a b = true) : placeOf b (rowN l) < placeOf a (rowN l) := by
  obtain ⟨p, s, e1, e2, e3⟩ := place_split a (rowN l) (row_full h a ha)
  have hp := ((row_all l).1 p a s e1).2.2 (b : Int) ((edge_iff l a b).mp he)
  rw [inN_nat] at hp
  have := place_lt b p (a :: s) hp
  rw [← e1] at this
  omega
theorem edge_out (l : List NodeT) (a b : Nat) (ha : ¬ a < l.length) : edge l a b = false := by
  unfold edge needs
  rw [List.getElem?_eq_none (by omega)]
  rfl
/-- The order has all nodes just if none comes behind itself. -/
theorem row_iff (l : List NodeT) (hs : shapeS l = true) : (rowN l).length = l.length ↔ ∀ i, i < l.length → mat (edge l) l.length i i = false := by
  constructor
  · intro h i hi
    cases hm : mat (edge l) l.length i i with
    | false => rfl
    | true =>
      have := mat_rank (edge l) (fun x => placeOf x (rowN l)) (fun a b hab => by
        by_cases ha : a < l.length
        · exact row_rank h a b ha hab
        · rw [edge_out l a b ha] at hab
          exact absurd hab (by decide)) l.length i i hm
      exact absurd this (Nat.lt_irrefl _)
  · intro h
    obtain ⟨h1, h2, h3⟩ := row_all l
    rcases h3 with h3 | h3
    · exact h3
    · by_cases hu : und l.length (rowN l) = []
      · rw [hu] at h2
        simpa using h2
      · exfalso
        have hmem : ∀ u ∈ und l.length (rowN l), u < l.length ∧ (rowN l).contains u = false := by
          intro u hu
          have := List.mem_filter.mp hu
          exact ⟨List.mem_range.mp this.1, by simpa using this.2⟩
        obtain ⟨u, hu1, hu2⟩ := stuck_cycle (mat (edge l) l.length) l.length (mat_closed (edge l) l.length) _ (und l.length (rowN l)) (Nat.le_refl _) hu (fun u hu => (hmem u hu).1) (fun u hu => by
          obtain ⟨ha, hb⟩ := hmem u hu
          have hn := List.find?_eq_none.mp h3 u (List.mem_range.mpr ha)
          simp only [avail, hb, Bool.not_false, Bool.true_and, List.all_eq_true, Classical.not_forall] at hn
          obtain ⟨k, hk, hk2⟩ := hn
          obtain ⟨k0, k1, _⟩ := shape_needs l hs u ha k hk
          obtain ⟨v, rfl⟩ := Int.eq_ofNat_of_zero_le k0
          have hk3 : (rowN l).contains v = false := by
            have e := inN_nat (rowN l) v
            cases hc : (rowN l).contains v with
            | false => rfl
            | true =>
              rw [hc] at e
              exact absurd e hk2
          refine ⟨v, List.mem_filter.mpr ⟨List.mem_range.mpr (by omega), by rw [hk3]; rfl⟩, ?_⟩
          exact mat_edge _ _ _ ((edge_iff l u v).mpr hk) _)
        rw [h u (hmem u hu1).1] at hu2
        exact absurd hu2 (by decide)
def cycS (l : List NodeT) : Bool := (List.range l.length).any fun i => mat (edge l) l.length i i
theorem cyc_row (l : List NodeT) (hs : shapeS l = true) : cycS l = !(decide ((rowN l).length = l.length)) := by
  rw [Bool.eq_iff_iff]
  simp only [cycS, List.any_eq_true, List.mem_range, Bool.not_eq_true', decide_eq_false_iff_not]
  rw [row_iff l hs]
  constructor
  · rintro ⟨i, hi, hm⟩ h
    rw [h i hi] at hm
    exact absurd hm (by decide)
  · intro h
    simp only [Classical.not_forall] at h
    obtain ⟨i, hi, hm⟩ := h
    exact ⟨i, hi, by simpa using hm⟩
def manyOk (l : List NodeT) : Bool := decide (1 ≤ l.length ∧ l.length ≤ 12)
/-- May a spec be? -/
def mayS (l : List NodeT) : Bool := manyOk l && (shapeS l && !(cycS l))
def checkS (l : List NodeT) : Int := if mayS l = true then 0 else 230
end Go.Proofs.Ytbiphljdommacaa.R

/- Short forms of what the walks give often: each proof is found from what is at hand where the form is used. -/
import Derived.Test.YtbiphljdommacaaSh
import Derived.Test.YtbiphljdommacaaTi
import Derived.Test.YtbiphljdommacaaRet
namespace Go.Proofs.Ytbiphljdommacaa.S3
open Go.RowKit Go.Proofs.YtbiphljdommacaaW.PrintWords Go.Proofs.YtbiphljdommacaaW.PrintLast Go.Proofs.YtbiphljdommacaaW.PrintMore Go.Proofs.Ytbiphljdommacaa.Co Go.Proofs.Ytbiphljdommacaa.Sh Go.Proofs.Ytbiphljdommacaa.Ti Go.Proofs.Ytbiphljdommacaa.Ret
set_option linter.unusedVariables false
theorem re_ {p : Prop} (h : p := by (first | rfl | (simp [errW_none, errW_some] <;> rfl) | (simp [*, errW_none, errW_some] <;> rfl) | exact ret_ie _ | (simp [*, errW_none, errW_some, bne]; done))) : p := h
theorem nl_ {p : Prop} (h : p := by (first | exact Kd.S_nil _ _ _ _ _ | exact Kd.N_nil _ _ _ _ _ | exact Kd.V_nil _ _ _ _ _ | exact Kd.Q_nil _ _ _ _ _ | exact Kd.R_nil _ _ _ _ _)) : p := h
theorem rl_ {p : Prop} (h : p := by (first | rfl | (simp; done) | (simp [*]; done))) : p := h
theorem le_ {p : Prop} (h : p := by (first | omega | exact Nat.le_refl _)) : p := h
theorem od_ {p : Prop} [Decidable p] (h : decide p = true := by (first | (with_reducible assumption) | assumption)) : p := of_decide_eq_true h
theorem ga_ {p : Prop} (h : p := by ((try simp only [List.map_toArray, List.map_cons, List.map_nil]); first | done | rfl | (simp only [List.length_drop, List.length_take]; rfl))) : p := h
theorem hb_ {p : Prop} (h : p := by (repeat (first | (with_reducible first | exact HB.out | apply below_alloc | apply pw_below_drewN | apply below_drew1 | refine below_set ?_ (Aside0.out (by with_reducible assumption))) | exact HB.out))) : p := h
theorem hk_ {p : Prop} (h : p := by (repeat (first | (with_reducible first | exact HK.out | apply Kept.alloc | apply Kept.drewN | apply Kept.drew | refine Kept.setCell ?_ (.inr (Aside0.out (by with_reducible assumption))) _) | exact HK.out))) : p := h
theorem cB_ {α : Type} {d : Kd α} {w W : World} {A : Option Addr} {n : Nat} {xs : List α} (H : Aside0 (d.C w A n xs)) (h : d.C w A n xs → d.C W A n xs := by (intro h_; repeat (first | exact (Kd.C_below h_ HB.out) | (with_reducible refine Kd.C_alloc ?_ _) | (with_reducible refine Kd.C_drewN ?_ _) | (with_reducible refine Kd.C_drew ?_)))) : d.C W A n xs := h H.out
theorem cX_ {q p : Prop} (H : q) (h : q → p := by (intro h_; repeat (first | exact h_ | (with_reducible refine Kd.C_alloc ?_ _) | (with_reducible refine Kd.C_drewN ?_ _) | (with_reducible refine Kd.C_drew ?_)))) : p := h H
section
variable {w0 w W w1 : World} {g g' : Nat} {o : Obj} {t : TypeId}
theorem bw_ (h : Aside0 (w0.heap[g]? = some o)) (hb : Below W.heap.size W w1) (hf : w0.heap[g]? = some o → W.heap[g]? = some o := by (intro h_; (repeat (first | with_reducible exact h_ | with_reducible refine blk_drewN ?_ _ | with_reducible refine blk_drew ?_ | with_reducible refine blk_alloc ?_ _ | refine blk_far ?_ (Aside0.out (by first | with_reducible assumption | assumption)) _)); try exact h_)) : Aside0 (w1.heap[g]? = some o) := ⟨blk_below (hf h.out) hb⟩
theorem bZ_ (h : Aside0 (w0.heap[g]? = some o)) (hf : w0.heap[g]? = some o → W.heap[g]? = some o := by (intro h_; (repeat (first | with_reducible exact h_ | with_reducible refine blk_drewN ?_ _ | with_reducible refine blk_drew ?_ | with_reducible refine blk_alloc ?_ _ | refine blk_far ?_ (Aside0.out (by first | with_reducible assumption | assumption)) _)); try exact h_)) : W.heap[g]? = some o := hf h.out
theorem cf3_ {i0 i1 i2 : Nat} {u0 u1 u2 v : Value} {a : Addr} (hn : a.block ≠ g') (h : W.cell? a = some v) : (((W.setCell ⟨g', i0, none⟩ u0).setCell ⟨g', i1, none⟩ u1).setCell ⟨g', i2, none⟩ u2).cell? a = some v :=
  (cell_far hn _).trans ((cell_far hn _).trans ((cell_far hn _).trans h))
theorem cf5_ {i0 i1 i2 i3 i4 : Nat} {u0 u1 u2 u3 u4 v : Value} {a : Addr} (hn : a.block ≠ g') (h : W.cell? a = some v) : (((((W.setCell ⟨g', i0, none⟩ u0).setCell ⟨g', i1, none⟩ u1).setCell ⟨g', i2, none⟩ u2).setCell ⟨g', i3, none⟩ u3).setCell ⟨g', i4, none⟩ u4).cell? a = some v :=
  (cell_far hn _).trans ((cell_far hn _).trans (cf3_ hn h))
theorem bu3_0 {a1 a2 x v : Value} (h : W.heap[g]? = some (.cells #[x, a1, a2] t (0, 0))) : (W.setCell ⟨g, 0, none⟩ v).heap[g]? = some (.cells #[v, a1, a2] t (0, 0)) := blk_put h 0 v rfl
theorem bu3_1 {a0 a2 x v : Value} (h : W.heap[g]? = some (.cells #[a0, x, a2] t (0, 0))) : (W.setCell ⟨g, 1, none⟩ v).heap[g]? = some (.cells #[a0, v, a2] t (0, 0)) := blk_put h 1 v rfl
theorem bu3_2 {a0 a1 x v : Value} (h : W.heap[g]? = some (.cells #[a0, a1, x] t (0, 0))) : (W.setCell ⟨g, 2, none⟩ v).heap[g]? = some (.cells #[a0, a1, v] t (0, 0)) := blk_put h 2 v rfl
theorem bu5_0 {a1 a2 a3 a4 x v : Value} (h : W.heap[g]? = some (.cells #[x, a1, a2, a3, a4] t (0, 0))) : (W.setCell ⟨g, 0, none⟩ v).heap[g]? = some (.cells #[v, a1, a2, a3, a4] t (0, 0)) := blk_put h 0 v rfl
theorem bu5_1 {a0 a2 a3 a4 x v : Value} (h : W.heap[g]? = some (.cells #[a0, x, a2, a3, a4] t (0, 0))) : (W.setCell ⟨g, 1, none⟩ v).heap[g]? = some (.cells #[a0, v, a2, a3, a4] t (0, 0)) := blk_put h 1 v rfl
theorem bu5_2 {a0 a1 a3 a4 x v : Value} (h : W.heap[g]? = some (.cells #[a0, a1, x, a3, a4] t (0, 0))) : (W.setCell ⟨g, 2, none⟩ v).heap[g]? = some (.cells #[a0, a1, v, a3, a4] t (0, 0)) := blk_put h 2 v rfl
theorem bu5_3 {a0 a1 a2 a4 x v : Value} (h : W.heap[g]? = some (.cells #[a0, a1, a2, x, a4] t (0, 0))) : (W.setCell ⟨g, 3, none⟩ v).heap[g]? = some (.cells #[a0, a1, a2, v, a4] t (0, 0)) := blk_put h 3 v rfl
theorem bu5_4 {a0 a1 a2 a3 x v : Value} (h : W.heap[g]? = some (.cells #[a0, a1, a2, a3, x] t (0, 0))) : (W.setCell ⟨g, 4, none⟩ v).heap[g]? = some (.cells #[a0, a1, a2, a3, v] t (0, 0)) := blk_put h 4 v rfl
theorem bu1_0 {x v : Value} (h : W.heap[g]? = some (.cells #[x] t (0, 0))) : (W.setCell ⟨g, 0, none⟩ v).heap[g]? = some (.cells #[v] t (0, 0)) := blk_put h 0 v rfl
theorem bu2_0 {a1 x v : Value} (h : W.heap[g]? = some (.cells #[x, a1] t (0, 0))) : (W.setCell ⟨g, 0, none⟩ v).heap[g]? = some (.cells #[v, a1] t (0, 0)) := blk_put h 0 v rfl
theorem bu2_1 {a0 x v : Value} (h : W.heap[g]? = some (.cells #[a0, x] t (0, 0))) : (W.setCell ⟨g, 1, none⟩ v).heap[g]? = some (.cells #[a0, v] t (0, 0)) := blk_put h 1 v rfl
/-- A block into which values were put since. -/
theorem bP_ {c0 c1 : Array Value} (h : Aside0 (w0.heap[g]? = some (.cells c0 t (0, 0)))) (hf : w0.heap[g]? = some (.cells c0 t (0, 0)) → W.heap[g]? = some (.cells c1 t (0, 0)) := by (intro h_; (repeat (first | with_reducible refine blk_drewN ?_ _ | with_reducible refine blk_drew ?_ | with_reducible refine blk_alloc ?_ _ | with_reducible apply bu5_4 | with_reducible apply bu5_3 | with_reducible apply bu5_2 | with_reducible apply bu5_1 | with_reducible apply bu5_0 | with_reducible apply bu3_2 | with_reducible apply bu3_1 | with_reducible apply bu3_0 | with_reducible apply bu2_1 | with_reducible apply bu2_0 | with_reducible apply bu1_0 | refine blk_far ?_ (Aside0.out (by first | with_reducible assumption | assumption)) _)); exact h_)) : W.heap[g]? = some (.cells c1 t (0, 0)) := hf h.out
/-- The same, of which the block's content is to be found. -/
theorem bp_ {c0 c1 : Array Value} (h : Aside0 (w0.heap[g]? = some (.cells c0 t (0, 0)))) (hb : Below W.heap.size W w1) (hf : w0.heap[g]? = some (.cells c0 t (0, 0)) → W.heap[g]? = some (.cells c1 t (0, 0)) := by (intro h_; (repeat (first | with_reducible refine blk_drewN ?_ _ | with_reducible refine blk_drew ?_ | with_reducible refine blk_alloc ?_ _ | with_reducible apply bp5_ | with_reducible apply bp3_)); exact h_)) : Aside0 (w1.heap[g]? = some (.cells c1 t (0, 0))) := ⟨blk_below (hf h.out) hb⟩
theorem cz3_ {a0 a1 a2 : Value} (h : Aside0 (W.heap[g]? = some (.cells #[a0, a1, a2] t (0, 0)))) : (W.cell? ⟨g, 0, none⟩ = some a0 ∧ W.cell? ⟨g, 1, none⟩ = some a1 ∧ W.cell? ⟨g, 2, none⟩ = some a2) ∧ W.frozen? ⟨g, 0, none⟩ = false ∧ W.frozen? ⟨g, 1, none⟩ = false ∧ W.frozen? ⟨g, 2, none⟩ = false := ⟨ck3_ h, fz3_ h⟩
theorem cz5_ {a0 a1 a2 a3 a4 : Value} (h : Aside0 (W.heap[g]? = some (.cells #[a0, a1, a2, a3, a4] t (0, 0)))) : (W.cell? ⟨g, 0, none⟩ = some a0 ∧ W.cell? ⟨g, 1, none⟩ = some a1 ∧ W.cell? ⟨g, 2, none⟩ = some a2 ∧ W.cell? ⟨g, 3, none⟩ = some a3 ∧ W.cell? ⟨g, 4, none⟩ = some a4) ∧ W.frozen? ⟨g, 0, none⟩ = false ∧ W.frozen? ⟨g, 1, none⟩ = false ∧ W.frozen? ⟨g, 2, none⟩ = false ∧ W.frozen? ⟨g, 3, none⟩ = false ∧ W.frozen? ⟨g, 4, none⟩ = false := ⟨ck5_ h, fz5_ h⟩
theorem bB_ (hb : Below W.heap.size W w1) (h : Below w.heap.size w W := by (repeat (first | (with_reducible first | exact HB.out | apply below_alloc | apply pw_below_drewN | apply below_drew1 | refine below_set ?_ (Aside0.out (by with_reducible assumption))) | exact HB.out))) : Aside0 (Below w.heap.size w w1) := ⟨below_step h hb⟩
theorem cW_ {a : Addr} {v : Value} (h : w0.cell? a = some v) (hf : w0.cell? a = some v → W.cell? a = some v := by exact (fun h_ => (HB.out.cell (World.block_lt_of_cell? w _ h_)).trans h_)) : W.cell? a = some v := hf h
theorem rn_ {α : Type} {d : Kd α} {e base : Nat} {ok : Nat → Prop} {v : Value} {xs : List α} (h : Kd.N d e w0 base ok v xs) (hf : Kd.N d e w0 base ok v xs → Kd.N d e W base ok v xs := by (intro h_; (with_reducible repeat (first | exact h_ | apply Kd.N_alloc | apply Kd.N_drewN | apply Kd.N_drew)))) : Kd.N d e W base ok v xs := hf h
theorem ob_ {q p : Prop} (h : q) (hf : q → p := by (intro h_; first | exact h_ | (rw [add_block]; exact h_) | (show (Addr.add _ _).block ≠ _; rw [add_block]; exact h_) | (dsimp only; exact h_))) : p := hf h
theorem A_ {p : Prop} (h : p) : Aside0 p := ⟨h⟩
end
section
variable {P : Program} {ops : Array Oper} {rest : List Oper} {o : Oper} {a : Act} {Q : Exit → Act → World → Prop} {w W w1 : World} {wa wb wc : World} {ga gb gc : Nat} {oa ob oc : Obj}
/-- A box is made. -/
theorem by0_ (N : Tmp) (cs : Array Value) (t : TypeId) (h : ∀ g w1, Aside0 (w1.heap[g]? = some (.cells cs t (0, 0))) → Aside0 (w.heap.size ≤ g) → Aside0 (Below w.heap.size w w1) → wpList P ops Q rest (a.put o.dst (.pointer (some ⟨g, 0, none⟩))) w1) (hH : Below w.heap.size w W := by exact hB_ HB.out)
    (hd : o.dst = some N := by rfl) (hg : o.guard = none := by rfl) (hr : (execOp a.eval o).run P W = .ok (.value (.pointer (some ⟨W.heap.size, 0, none⟩))) (W.alloc (.cells cs t (0, 0))) := by (first | (go_simp; done) | (go_simp; rfl))) : wpList P ops Q (o :: rest) a W :=
  bx_ N cs t (fun g hg w1 hbox hb => h g w1 ⟨hbox⟩ (bz_ hH hg) ⟨below_step hH hb⟩) hd hg hr
/-- A box is made beside another. -/
theorem by1_ (N : Tmp) (cs : Array Value) (t : TypeId) (ha : Aside0 (wa.heap[ga]? = some oa)) (h : ∀ g w1, Aside0 (w1.heap[g]? = some (.cells cs t (0, 0))) → Aside0 (w.heap.size ≤ g) → Aside0 (Below w.heap.size w w1) → Aside0 (ga ≠ g) → Aside0 (g ≠ ga) → Aside0 (w1.heap[ga]? = some oa) → wpList P ops Q rest (a.put o.dst (.pointer (some ⟨g, 0, none⟩))) w1)
    (hf : wa.heap[ga]? = some oa → W.heap[ga]? = some oa := by (intro h_; (with_reducible repeat (first | exact h_ | refine blk_drewN ?_ _ | refine blk_drew ?_ | refine blk_alloc ?_ _)))) (hH : Below w.heap.size w W := by exact hB_ HB.out)
    (hd : o.dst = some N := by rfl) (hg : o.guard = none := by rfl) (hr : (execOp a.eval o).run P W = .ok (.value (.pointer (some ⟨W.heap.size, 0, none⟩))) (W.alloc (.cells cs t (0, 0))) := by (first | (go_simp; done) | (go_simp; rfl))) : wpList P ops Q (o :: rest) a W :=
  bx_ N cs t (fun g hg w1 hbox hb => h g w1 ⟨hbox⟩ (bz_ hH hg) ⟨below_step hH hb⟩ (bn_ ha hg hf) (bm_ ha hg hf) (bs_ ha hb hf)) hd hg hr
/-- A box is made beside two others. -/
theorem by2_ (N : Tmp) (cs : Array Value) (t : TypeId) (ha : Aside0 (wa.heap[ga]? = some oa)) (hb_ : Aside0 (wb.heap[gb]? = some ob)) (h : ∀ g w1, Aside0 (w1.heap[g]? = some (.cells cs t (0, 0))) → Aside0 (w.heap.size ≤ g) → Aside0 (Below w.heap.size w w1) → Aside0 (ga ≠ g) → Aside0 (g ≠ ga) → Aside0 (w1.heap[ga]? = some oa) → Aside0 (gb ≠ g) → Aside0 (g ≠ gb) → Aside0 (w1.heap[gb]? = some ob) → wpList P ops Q rest (a.put o.dst (.pointer (some ⟨g, 0, none⟩))) w1)
    (hf : wa.heap[ga]? = some oa → W.heap[ga]? = some oa := by (intro h_; (with_reducible repeat (first | exact h_ | refine blk_drewN ?_ _ | refine blk_drew ?_ | refine blk_alloc ?_ _)))) (hf2 : wb.heap[gb]? = some ob → W.heap[gb]? = some ob := by (intro h_; (with_reducible repeat (first | exact h_ | refine blk_drewN ?_ _ | refine blk_drew ?_ | refine blk_alloc ?_ _)))) (hH : Below w.heap.size w W := by exact hB_ HB.out)
    (hd : o.dst = some N := by rfl) (hg : o.guard = none := by rfl) (hr : (execOp a.eval o).run P W = .ok (.value (.pointer (some ⟨W.heap.size, 0, none⟩))) (W.alloc (.cells cs t (0, 0))) := by (first | (go_simp; done) | (go_simp; rfl))) : wpList P ops Q (o :: rest) a W :=
  bx_ N cs t (fun g hg w1 hbox hb => h g w1 ⟨hbox⟩ (bz_ hH hg) ⟨below_step hH hb⟩ (bn_ ha hg hf) (bm_ ha hg hf) (bs_ ha hb hf) (bn_ hb_ hg hf2) (bm_ hb_ hg hf2) (bs_ hb_ hb hf2)) hd hg hr
theorem gd_ (N : Tmp) (_hN : o.dst = some N) (h : wpList P ops Q (o :: rest) a W) : wpList P ops Q (o :: rest) a W := h
theorem gc_ (f : FuncId) {as : Array Operand} {ts : Array TypeId} (_ho : o.op = .call { callee := .value (.func f), args := as, argTypes := ts }) (h : wpList P ops Q (o :: rest) a W) : wpList P ops Q (o :: rest) a W := h
/-- A call in a plain region. -/
theorem gL_ {oi : Oper} (N : Option Tmp) {f : FuncId} {fn : Func} {as : Array Operand} {ts : Array TypeId} (hf : P.funcs[f]? = some fn) (args : Array Value) (h : Calls P f args w fun e w' => ∃ v, e = .returned v ∧ wpList P ops Q rest (a.put N v) w')
    (hd : oi.dst = N := by rfl) (hg : oi.guard = none := by rfl) (hname : (fn.name == "runtime.NumGoroutine") = false := by kernel_rfl) (hb : fn.body.isSome = true := by rfl) (hop : oi.op = .call { callee := .value (.func f), args := as, argTypes := ts } := by rfl)
    (hargs : as.map a.eval = args := by ((try simp only [List.map_toArray, List.map_cons, List.map_nil]); first | done | rfl | (simp only [List.length_drop, List.length_take]; rfl))) : wpList P ops Q (oi :: rest) a w := goesL_ N hd hg hf hname hb args hop hargs h
end
section
variable {P : Program} {ops : Array Oper} {Q : Exit → Act → World → Prop} {md : Region.Mode} {S : World → Prop} {ds : List Nat} {fuel : Nat} {l : Array Bool} {a : Act} {w : World} {oi : Oper}
theorem qX_ (i : Nat) (N : Tmp) (l' : Array Bool) {v : Value} {a' : Act} (h : wpAnyLast P md ops Q S ds fuel l' a' w) (hc : anyB md ops l l' i = true := by exact any_of HT_.out (by kernel_rfl)) (hi : ops[i]? = some oi := by rfl) (hN : oi.dst = some N := by rfl)
    (hQ : ∀ c a w, Q (.panic c) (a.put oi.dst v) w → Q (.panic c) a w := by exact fun _ _ _ h => h) (hw : Region.wanted oi (yielded ops a.tmps) = true := by rfl) (hy : ∀ w, (execOp a.eval oi).run P w = .ok (.value v) w := by (intro w'; go_simp; with_reducible rfl))
    (ha : a.put (some N) v = a' := by (simp only [Act.put, sa_, s0_, s1_, i64_w, i32_w]; rfl)) : wpAnyLast P md ops Q S ds (fuel + 1) l a w := pA_ i N v l' hc hi hN hQ hw hy a' ha h
theorem uX_ (i : Nat) (N : Tmp) (l' : Array Bool) {v : Value} {a' : Act} (hS : S w) (h : wpAnyLast P md ops Q S ds fuel l' a' w) (hc : takeB md ops ds l l' i = true := by exact take_ofW HT_.out HW_.out (by kernel_rfl)) (hi : ops[i]? = some oi := by rfl)
    (hy : ∀ w, S w → (execOp a.eval oi).run P w = .ok (.value v) w := by (rintro w' hS_; (try dsimp only at hS_); go_simp; with_reducible rfl)) (hN : oi.dst = some N := by rfl)
    (hQ : ∀ c a w, Q (.panic c) (a.put oi.dst v) w → Q (.panic c) a w := by exact fun _ _ _ h => h) (hw : Region.wanted oi (yielded ops a.tmps) = true := by rfl)
    (ha : a.put (some N) v = a' := by (simp only [Act.put, sa_, s0_, s1_, i64_w, i32_w]; rfl)) : wpAnyLast P md ops Q S ds (fuel + 1) l a w := tA_ i N v l' hc hi hN hQ hw hy hS a' ha h
end
end Go.Proofs.Ytbiphljdommacaa.S3

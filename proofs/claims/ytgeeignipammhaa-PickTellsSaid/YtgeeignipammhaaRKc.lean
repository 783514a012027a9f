/- A row of the call's own, or the head of one (a cut with a capacity): it is written and read as the row itself is. -/
import Derived.Test.YtgeeignipammhaaRx4
import Derived.Test.YtgeeignipammhaaPlain
import Derived.Test.YtgeeignipammhaaRet
import Derived.Test.YtgeeignipammhaaWMore
import Derived.RangeFuncBox
import Derived.Test.YtgeeignipammhaaCo
namespace Go.Proofs.Ytgeeignipammhaa.R
open Go.RowKit Go.Proofs.Ytgeeignipammhaa.Ret Go.Proofs.Ytgeeignipammhaa.Plain Go.Proofs.Ytgeeignipammhaa.Co Go.Proofs.YtgeeignipammhaaW.PrintWords Go.Proofs.YtgeeignipammhaaW.PrintLast Go.Proofs.YtgeeignipammhaaW.PrintMore
set_option linter.unusedVariables false
set_option linter.unusedSimpArgs false
namespace Kc
def R {α : Type} (d : Kd α) (e : Nat) (w : World) (base : Nat) (ok : Nat → Prop) (v : Value) (xs : List α) : Prop :=
  ∃ (A : Option Addr) (n0 c0 c : Nat) (ys : List α), d.R e w base ok (.slice A n0 c0) ys ∧ v = .slice A xs.length c ∧ xs.length ≤ c ∧ xs = ys.take xs.length ∧ xs.length ≤ ys.length
theorem own_eq (A : Option Addr) (n c n' c' : Nat) : (Value.slice A n c).ownBlock = (Value.slice A n' c').ownBlock := by cases A <;> rfl
section
variable {α : Type} {d : Kd α} {e base base' n c g N : Nat} {ok ok' : Nat → Prop} {w W w1 : World} {A : Option Addr} {u v v1 : Value} {xs : List α}
theorem R_of (h : d.R e w base ok v xs) : R d e w base ok v xs := by
  obtain ⟨A, c, rfl, hl, _⟩ := Kd.R_reads h
  exact ⟨A, _, _, c, xs, h, rfl, hl, List.take_length.symm, Nat.le_refl _⟩
theorem R_cut (h : R d e w base ok (.slice A n c) xs) (m c' : Nat) (hm : m ≤ xs.length) (hc : m ≤ c') : R d e w base ok (.slice A m c') (xs.take m) := by
  obtain ⟨A', n0, c0, c1, ys, hr, hv, hl, ht, hle⟩ := h
  injection hv with ha hn hc1
  subst ha
  have hlen : (xs.take m).length = m := by rw [List.length_take]; omega
  refine ⟨_, n0, c0, c', ys, hr, by rw [hlen], by rw [hlen]; exact hc, ?_, by rw [hlen]; omega⟩
  have h2 : xs.take m = (ys.take xs.length).take m := congrArg (List.take m) ht
  rw [hlen, h2, List.take_take, Nat.min_eq_left hm]
theorem R_map {W2 : World} {base2 : Nat} {ok2 : Nat → Prop} (h : R d e w base ok v xs) (f : ∀ (u : Value) (ys : List α), u.ownBlock = v.ownBlock → d.R e w base ok u ys → d.R e W2 base2 ok2 u ys) : R d e W2 base2 ok2 v xs := by
  obtain ⟨A, n0, c0, c, ys, hr, hv, r⟩ := h
  exact ⟨A, n0, c0, c, ys, f _ _ (by rw [hv]; exact own_eq _ _ _ _ _) hr, hv, r⟩
theorem R_get (h : R d e w base ok v xs) : ∃ u ys, u.ownBlock = v.ownBlock ∧ d.R e w base ok u ys := by
  obtain ⟨A, n0, c0, c, ys, hr, hv, r⟩ := h
  exact ⟨_, ys, by rw [hv]; exact own_eq _ _ _ _ _, hr⟩
theorem R_nil (d : Kd α) (e : Nat) (w : World) (base : Nat) (ok : Nat → Prop) : R d e w base ok (.slice none 0 0) [] := R_of (Kd.R_nil _ _ _ _ _)
theorem R_mono (h : R d e w base ok v xs) (hok : ∀ k, ok k → ok' k) : R d e w base ok' v xs := R_map h (fun _ _ _ h => Kd.R_mono h hok)
theorem R_below (h : R d e w base ok v xs) (hb : Below w.heap.size w w1) : R d e w1 base ok v xs := R_map h (fun _ _ _ h => Kd.R_below h hb)
theorem R_alloc (h : R d e w base ok v xs) (o : Obj) : R d e (w.alloc o) base ok v xs := R_map h (fun _ _ _ h => Kd.R_alloc h o)
theorem R_drew (h : R d e w base ok v xs) : R d e w.drew base ok v xs := R_map h (fun _ _ _ h => Kd.R_drew h)
theorem R_drewN (h : R d e w base ok v xs) (m : Nat) : R d e (w.drewN m) base ok v xs := R_map h (fun _ _ _ h => Kd.R_drewN h m)
theorem R_lower {base' : Nat} (h : R d e w base ok v xs) (hb : base' ≤ base) : R d e w base' ok v xs := R_map h (fun _ _ _ h => Kd.R_lower h hb)
theorem R_far (h : R d e w base ok v xs) {p : Addr} (hok : ∀ k, ok k → k ≠ p.block) (u : Value) : R d e (w.setCell p u) base ok v xs := R_map h (fun _ _ _ h => Kd.R_far h hok u)
theorem R_types (h : R d e w base ok v xs) {g t : Nat} {cells : Array Value} (hb : w.heap[g]? = some (.cells cells t (0, 0))) (ht : ∀ q, q ∈ e :: d.E → q ≠ t) : R d e w base (fun k => ok k ∧ k ≠ g) v xs := R_map h (fun _ _ _ h => Kd.R_types h hb ht)
theorem R_after (h : R d e W base (fun k => ok k ∧ some k ≠ v.ownBlock) u xs) (hg : W.grownBy w1 v.ownBlock) (hat : v1.ownBlock = v.ownBlock ∨ ∃ b, v1.ownBlock = some b ∧ W.heap.size ≤ b) : R d e w1 base (fun k => ok k ∧ some k ≠ v1.ownBlock) u xs := R_map h (fun _ _ _ h => Kd.R_after h hg hat)
theorem R_old (hu : R d e W base ok u xs) (hb : Below W.heap.size W w1) : R d e w1 base (fun k => ok k ∧ k < W.heap.size) u xs := R_map hu (fun _ _ _ h => Kd.R_old h hb)
theorem R_told (h : R d e w1 base (fun k => ok k ∧ k < N) u xs) (hbase : ∀ k, v.ownBlock = some k → N ≤ k) : R d e w1 base (fun k => (ok k ∧ some k ≠ v.ownBlock) ∧ k < N) u xs := R_map h (fun _ _ _ h => Kd.R_told h hbase)
theorem R_new' (h : R d e w1 W.heap.size ok v xs) (hlt : ∀ k, u.ownBlock = some k → k < W.heap.size) : R d e w1 W.heap.size (fun k => ok k ∧ some k ≠ u.ownBlock) v xs := R_map h (fun _ _ _ h => Kd.R_new' h hlt)
theorem R_elder' (h : R d e W base ok v xs) (hbase : ∀ k, u.ownBlock = some k → W.heap.size ≤ k) (hb : Below W.heap.size W w1) : R d e w1 base (fun k => ok k ∧ some k ≠ u.ownBlock) v xs := R_map h (fun _ _ _ h => Kd.R_elder' h hbase hb)
theorem R_elderB (h : R d e W base ok v xs) (a : Nat) (ha : W.heap.size ≤ a) : R d e W base (fun k => ok k ∧ k ≠ a) v xs := R_map h (fun _ _ _ h => Kd.R_elderB h a ha)
theorem R_base (h : R d e w base ok v xs) : ∀ k, v.ownBlock = some k → base ≤ k := by
  obtain ⟨u, ys, hu, hr⟩ := R_get h
  rw [← hu]; exact Kd.R_base hr
theorem R_lt (h : R d e w base ok v xs) : ∀ k, v.ownBlock = some k → k < w.heap.size := by
  obtain ⟨u, ys, hu, hr⟩ := R_get h
  rw [← hu]; exact Kd.R_lt hr
theorem R_ne (h : R d e w base ok v xs) {g t : Nat} {cells : Array Value} (hb : w.heap[g]? = some (.cells cells t (0, 0))) (ht : e ≠ t) : some g ≠ v.ownBlock := by
  obtain ⟨u, ys, hu, hr⟩ := R_get h
  rw [← hu]; exact Kd.R_ne hr hb ht
theorem R_slice (h : R d e w base ok v xs) : ∃ A c, v = .slice A xs.length c := by
  obtain ⟨A, n0, c0, c, ys, hr, hv, r⟩ := h
  exact ⟨A, c, hv⟩
theorem R_reads' (h : R d e w base ok (.slice A n c) xs) : n = xs.length ∧ n ≤ c ∧ d.C w A xs.length xs := by
  obtain ⟨A', n0, c0, c1, ys, hr, hv, hl, ht, hle⟩ := h
  injection hv with ha hn hc1
  subst ha; subst hc1
  have h2 := (Kd.R_reads' hr).2.2
  have h3 := Kd.C_take h2 hle
  rw [← ht] at h3
  exact ⟨hn, by omega, h3⟩
theorem R_form (h : R d e w base ok v xs) (hp : 0 < xs.length) : ∃ g cap, v = .slice (some ⟨g, 0, none⟩) xs.length cap ∧ base ≤ g ∧ g < w.heap.size ∧ ∃ cells, w.heap[g]? = some (.cells cells e (0, 0)) := by
  obtain ⟨A, n0, c0, c, ys, hr, hv, hl, ht, hle⟩ := h
  obtain ⟨g, cap, he, r⟩ := Kd.R_form hr (by omega)
  injection he with ha _ _
  exact ⟨g, c, by rw [hv, ha], r⟩
theorem R_elem (h : R d e W base ok (.slice (some ⟨g, 0, none⟩) n c) xs) (z : α) (i : Int) (h0 : 0 ≤ i) (h1 : i < n) :
    ∃ cs, cs.length = d.sz ∧ d.M W base (fun k => ok k ∧ k ≠ g) (xs.getD i.toNat z) cs ∧ (∀ j u, cs[j]? = some u → W.cell? ⟨g, i.toNat * d.sz + j, none⟩ = some u) ∧ ∀ j, W.frozen? ⟨g, i.toNat * d.sz + j, none⟩ = false := by
  obtain ⟨A', n0, c0, c1, ys, hr, hv, hl, ht, hle⟩ := h
  injection hv with ha hn hc1
  subst ha
  have hn0 := (Kd.R_reads' hr).1
  obtain ⟨cs, h2, h3, h4⟩ := Kd.R_elem hr z i h0 (by omega)
  refine ⟨cs, h2, ?_, h4⟩
  have hi : i.toNat < xs.length := by omega
  have hx : xs.getD i.toNat z = ys.getD i.toNat z := by
    rw [List.getD_eq_getElem?_getD, List.getD_eq_getElem?_getD, ht, List.getElem?_take, if_pos hi]
  rw [hx]
  exact h3
theorem R_seg (h : R d e W base ok (.slice (some ⟨g, 0, none⟩) n c) xs) (i : Int) (h0 : 0 ≤ i) (h1 : i < n) {cs seg : List Value} {j : Nat} (hcl : cs.length = d.sz) (hcc : ∀ j u, cs[j]? = some u → W.cell? ⟨g, i.toNat * d.sz + j, none⟩ = some u)
    (hj : j + seg.length ≤ d.sz) {x' : α} {okp : Nat → Prop} (hM : d.M W base okp x' (cs.take j ++ seg ++ cs.drop (j + seg.length))) (hokp : ∀ k, okp k → ok k ∧ k ≠ g) :
    R d e (W.setCells g (i.toNat * d.sz + j) seg) base ok (.slice (some ⟨g, 0, none⟩) n c) (xs.set i.toNat x') ∧ W.grownBy (W.setCells g (i.toNat * d.sz + j) seg) (some g) := by
  obtain ⟨A', n0, c0, c1, ys, hr, hv, hl, ht, hle⟩ := h
  injection hv with ha hn hc1
  subst ha; subst hc1
  have hn0 := (Kd.R_reads' hr).1
  obtain ⟨h5, h6⟩ := Kd.R_seg hr i h0 (by omega) hcl hcc hj hM hokp
  refine ⟨⟨_, n0, c0, c, _, h5, by rw [List.length_set, hn], by rw [List.length_set]; exact hl, ?_, by rw [List.length_set, List.length_set]; exact hle⟩, h6⟩
  rw [List.length_set, List.take_set, ← ht]
end
end Kc
end Go.Proofs.Ytgeeignipammhaa.R

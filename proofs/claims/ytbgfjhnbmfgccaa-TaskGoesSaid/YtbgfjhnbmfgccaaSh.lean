/- What stands behind a call, told by the fact that stood before it. -/
import Derived.Test.YtbgfjhnbmfgccaaCo
namespace Go.Proofs.Ytbgfjhnbmfgccaa.Sh
open Go.RowKit Go.Proofs.YtbgfjhnbmfgccaaW.PrintWords Go.Proofs.YtbgfjhnbmfgccaaW.PrintLast Go.Proofs.YtbgfjhnbmfgccaaW.PrintMore
set_option linter.unusedVariables false
section
variable {w0 w W w1 : World} {g g' : Nat} {o : Obj}
/-- A block is as it was. -/
theorem bs_ (h : Aside0 (w0.heap[g]? = some o)) (hb : Below W.heap.size W w1) (hf : w0.heap[g]? = some o → W.heap[g]? = some o := by (intro h_; (with_reducible repeat (first | exact h_ | refine blk_drewN ?_ _ | refine blk_drew ?_ | refine blk_alloc ?_ _)))) : Aside0 (w1.heap[g]? = some o) := ⟨blk_below (hf h.out) hb⟩
/-- A block is as it was, though another was written. -/
theorem bF_ (h : Aside0 (w0.heap[g]? = some o)) (hn : g ≠ g') (hb : Below W.heap.size W w1) (hf : (∀ (X : World) (i : Nat) (u : Value), X.heap[g]? = some o → (X.setCell ⟨g', i, none⟩ u).heap[g]? = some o) → w0.heap[g]? = some o → W.heap[g]? = some o := by (intro f_ h_; (with_reducible repeat (first | exact h_ | refine f_ _ _ _ ?_ | refine blk_drewN ?_ _ | refine blk_drew ?_ | refine blk_alloc ?_ _)))) : Aside0 (w1.heap[g]? = some o) :=
  ⟨blk_below (hf (fun X i u hx => (Below.heap_setCell X ⟨g', i, none⟩ u g hn).trans hx) h.out) hb⟩
theorem bn_ (h : Aside0 (w0.heap[g]? = some o)) (hg : g' = W.heap.size) (hf : w0.heap[g]? = some o → W.heap[g]? = some o := by (intro h_; (with_reducible repeat (first | exact h_ | refine blk_drewN ?_ _ | refine blk_drew ?_ | refine blk_alloc ?_ _)))) : Aside0 (g ≠ g') := ⟨by rw [hg]; exact Nat.ne_of_lt (blk_lt (hf h.out))⟩
theorem bm_ (h : Aside0 (w0.heap[g]? = some o)) (hg : g' = W.heap.size) (hf : w0.heap[g]? = some o → W.heap[g]? = some o := by (intro h_; (with_reducible repeat (first | exact h_ | refine blk_drewN ?_ _ | refine blk_drew ?_ | refine blk_alloc ?_ _)))) : Aside0 (g' ≠ g) := ⟨by rw [hg]; exact Nat.ne_of_gt (blk_lt (hf h.out))⟩
theorem ck_ {t : TypeId} {cs : Array Value} {v : Value} (h : Aside0 (W.heap[g]? = some (.cells cs t (0, 0)))) (i : Nat) (e : cs[i]? = some v := by rfl) : W.cell? ⟨g, i, none⟩ = some v := (blk_cell h.out i).trans e
/-- What stood before is as it was. -/
theorem hB_ {b : Nat} (h : Below b w w0) (hf : Below b w w0 → Below b w W := by (intro h_; (with_reducible repeat (first | exact h_ | apply below_alloc | apply pw_below_drewN | apply below_drew1)))) : Below b w W := hf h
theorem hG_ (h : Below w.heap.size w w0) (hl : w.heap.size ≤ g) (hf : (∀ (X : World) (i : Nat) (u : Value), Below w.heap.size w X → Below w.heap.size w (X.setCell ⟨g, i, none⟩ u)) → Below w.heap.size w w0 → Below w.heap.size w W := by (intro f_ h_; (with_reducible repeat (first | exact h_ | refine f_ _ _ _ ?_ | apply below_alloc | apply pw_below_drewN | apply below_drew1)))) : Below w.heap.size w W := hf (fun X i u hx => below_set hx hl) h
theorem bz_ (h : Below w.heap.size w W) (hg : g = W.heap.size) : Aside0 (w.heap.size ≤ g) := ⟨by rw [hg]; exact below_size h⟩
end
end Go.Proofs.Ytbgfjhnbmfgccaa.Sh

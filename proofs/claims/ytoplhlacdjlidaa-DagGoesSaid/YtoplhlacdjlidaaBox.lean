/- Variables in boxes, and rows that are read beside them. -/
import Derived.Test.YtoplhlacdjlidaaWAll
import Derived.RangeFuncBox
namespace Go.Proofs.Ytoplhlacdjlidaa.Box
open Go.RowKit Go.Proofs.YtoplhlacdjlidaaW.PrintWords
set_option linter.unusedVariables false
/-- What is read as numbers lies in no variable's box of another kind. -/
theorem C_grown {w w1 : World} {g t : Nat} {v : Value} {k : IntKind} {A : Option Addr} {n : Nat} {xs : List Int} (hb : Boxed w g t v) (hv : ∀ q m, v ≠ .int q m) (hg : w.grownBy w1 (some g)) (h : (Kd.int k).C w A n xs) : (Kd.int k).C w1 A n xs := by
  refine ⟨h.1, h.2.1, fun hn => ?_⟩
  obtain ⟨ad, e, hc⟩ := h.2.2 hn
  refine ⟨ad, e, fun j p hj => ?_⟩
  obtain ⟨c, hl, hK, hcell⟩ := hc j p hj
  refine ⟨c, hl, hK, fun i u hu => hg.cell (hcell i u hu) (fun he => ?_)⟩
  have hK' : c = [.int k p] := hK
  have hu' : u = .int k p := by
    rw [hK'] at hu
    cases i with
    | zero => simpa using hu.symm
    | succ i => simp at hu
  have h1 := hcell i u hu
  injection he with he
  have h2 : w.heap[(ad.add (j * (Kd.int k).sz + i)).block]? = some (.cells #[v] t (0, 0)) := by rw [he]; exact hb
  unfold World.cell? at h1
  rw [h2] at h1
  simp only at h1
  split at h1
  · cases h1
  · have hm := Array.mem_of_getElem? h1
    simp at hm
    exact hv k p (by rw [← hm, hu'])
end Go.Proofs.Ytoplhlacdjlidaa.Box

/- A spec that is written is read back, in plain words. -/
import Derived.Test.YtoplhlacdjlidaaRx24
import Derived.Test.YtoplhlacdjlidaaRx0
import Derived.WalkMore
import Derived.Test.YtoplhlacdjlidaaRx5
import Derived.Lib.AppendZerosOnto
import Derived.Lib.SliceRun
import Derived.Test.YtoplhlacdjlidaaRx17
import Derived.Test.YtoplhlacdjlidaaRDV
import Derived.Test.YtoplhlacdjlidaaRRD
import Derived.Test.YtoplhlacdjlidaaROp
namespace Go.Proofs.Ytoplhlacdjlidaa.R
open Go.RowKit Go.Proofs.YtoplhlacdjlidaaW.PrintWords Go.Proofs.YtoplhlacdjlidaaW.PrintLast Go.Proofs.YtoplhlacdjlidaaW.PrintMore Go.Proofs.Ytoplhlacdjlidaa.Plain Go.Proofs.Ytoplhlacdjlidaa.Opens
set_option linter.unusedVariables false
set_option linter.unusedSimpArgs false
theorem may_nodes {l : List NodeT} (h : mayS l = true) : ∀ x ∈ l, x.f0.length ≤ 12 ∧ (∀ v ∈ x.f0, 0 ≤ v ∧ v ≤ 12) ∧ (0 ≤ x.f1 ∧ x.f1 ≤ 5) ∧ (0 ≤ x.f2 ∧ x.f2 ≤ 1048576) := by
  obtain ⟨p1, p2, p3, p4⟩ := may_parts h
  intro x hx
  obtain ⟨i, hi, rfl⟩ := List.getElem_of_mem hx
  have hb := shapeFrom_at _ l 0 p3 i hi
  simp only [nodeOk, Bool.and_eq_true] at hb
  have hbo := of_decide_eq_true hb.1
  have hnd := shape_needs l p3 i hi
  rw [needs_at l i hi] at hnd
  exact ⟨(shape_bounds l p3 p2 i hi).1, fun v hv => by have := hnd v hv; omega, by omega, by omega⟩
theorem sameS_refl : ∀ l : List NodeT, sameS l l = true
  | [] => rfl
  | x :: l => by
    rw [sameS, sameS_refl l]
    simp [sameN]
theorem Read_f {l : List Int} {r : List NodeT × Int} (hb : ∀ x ∈ l, 0 ≤ x ∧ x ≤ 255) (hl : l.length ≤ 140737488351232) (h : readD l = r) : Ev (fun _ => dag_Read.f l) r := by
  have e : dag_Read.f l = some r := by
    unfold dag_Read.f
    rw [if_pos ⟨hb, hl⟩, h]
  rw [e]
  exact Ev.now _
end Go.Proofs.Ytoplhlacdjlidaa.R

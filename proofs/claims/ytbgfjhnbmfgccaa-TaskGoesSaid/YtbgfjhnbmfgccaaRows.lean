/-
  No cell of these rows narrows 'for every input' (looked for: loops, veiled, ifaces, maps, wideKeys, modest, calm, conditions, laid).
  DERIVED. THE GIVEN ROWS OF THIS SEAT. 4 by the template 'for every input the law returns true; each argument reads behind the call as it read before'; 0 by the template 'total and deterministic' (their statements: YtbgfjhnbmfgccaaTotals.lean).
  GIVEN WITH THE SEED: the statements are not yours to turn. If you find one false, say at which input.
  Laid BY PROGRAM, IN A SANDBOX (cutbox-rows.mjs): the forced cells as the released guide's own fill.sh prints them over the translation 5496c68f7789572d… (all of the seat's roots in one cut). By AI agents, Wed Nov 11 2026. No macro, syntax, notation, axiom, sorry.
-/
import Derived.Test.YtbgfjhnbmfgccaaChecked
import GoSem.Claim
import GoSem.ClaimJoined
import GoSem.ClaimMapViews
import Derived.JoinedTies
import Derived.KernelRfl
namespace Go.Proofs.Ytbgfjhnbmfgccaa
/- THE CELL 'sum', in the pinned program and in every row, IS THE sha256 OF THE DUMP (.gsa) THAT YtbgfjhnbmfgccaaProg.lean LOADS. Nothing in Lean hashes anything: it is a label: what it is worth is what the hold of that sum in a sandbox is worth. -/
noncomputable def Try.pinned : Pinned := { name := "ytbgfjhnbmfgccaa", sum := "5496c68f7789572dea9bc10be34caf3527aee67c561d0c0d54beaa2b4908e32a", checked := Try.checked }
namespace Rows
def none {H : Type} : Left H := { results := [], args := [] }

/-- 'millhandlaw24.TaskPauses': WHATEVER THE INPUT: true; the input reads as it did. -/
def taskPausesSpec : ChangeSpec := { name := "taskPauses", fn := fun _ => fun
  | [d] => { results := [.lit (.bool true)], args := [d] }
  | _ => none }
def taskPausesRow : OpenClaim := { program := "ytbgfjhnbmfgccaa", sum := "5496c68f7789572dea9bc10be34caf3527aee67c561d0c0d54beaa2b4908e32a", func := "millhand/millhandlaw24.TaskPauses", spec := "taskPauses", apart := false }
def TaskPausesSaid : Prop := taskPausesRow.holds Try.pinned (OpenSpec.ofChange taskPausesSpec)

/-- ITS FALSE NEIGHBOUR: 'it returns false'. Refute it at one input. -/
def taskPausesWrong : ChangeSpec := { name := "taskPauses", fn := fun _ => fun
  | [d] => { results := [.lit (.bool false)], args := [d] }
  | _ => none }
def TaskPausesWrongFalsely : Prop := taskPausesRow.holds Try.pinned (OpenSpec.ofChange taskPausesWrong)

/-- 'millhandlaw24.TaskRuns': WHATEVER THE INPUT: true; the input reads as it did. -/
def taskRunsSpec : ChangeSpec := { name := "taskRuns", fn := fun _ => fun
  | [d1, d2, d3] => { results := [.lit (.bool true)], args := [d1, d2, d3] }
  | _ => none }
def taskRunsRow : OpenClaim := { program := "ytbgfjhnbmfgccaa", sum := "5496c68f7789572dea9bc10be34caf3527aee67c561d0c0d54beaa2b4908e32a", func := "millhand/millhandlaw24.TaskRuns", spec := "taskRuns", apart := false }
def TaskRunsSaid : Prop := taskRunsRow.holds Try.pinned (OpenSpec.ofChange taskRunsSpec)

/-- ITS FALSE NEIGHBOUR: 'it returns false'. Refute it at one input. -/
def taskRunsWrong : ChangeSpec := { name := "taskRuns", fn := fun _ => fun
  | [d1, d2, d3] => { results := [.lit (.bool false)], args := [d1, d2, d3] }
  | _ => none }
def TaskRunsWrongFalsely : Prop := taskRunsRow.holds Try.pinned (OpenSpec.ofChange taskRunsWrong)

/-- 'millhandlaw24.TaskNames': WHATEVER THE INPUT: true; the input reads as it did. -/
def taskNamesSpec : ChangeSpec := { name := "taskNames", fn := fun _ => fun
  | [] => { results := [.lit (.bool true)], args := [] }
  | _ => none }
def taskNamesRow : OpenClaim := { program := "ytbgfjhnbmfgccaa", sum := "5496c68f7789572dea9bc10be34caf3527aee67c561d0c0d54beaa2b4908e32a", func := "millhand/millhandlaw24.TaskNames", spec := "taskNames", apart := false }
def TaskNamesSaid : Prop := taskNamesRow.holds Try.pinned (OpenSpec.ofChange taskNamesSpec)

/-- ITS FALSE NEIGHBOUR: 'it returns false'. Refute it at one input. -/
def taskNamesWrong : ChangeSpec := { name := "taskNames", fn := fun _ => fun
  | [] => { results := [.lit (.bool false)], args := [] }
  | _ => none }
def TaskNamesWrongFalsely : Prop := taskNamesRow.holds Try.pinned (OpenSpec.ofChange taskNamesWrong)

/-- 'millhandlaw24.TaskGoes': WHATEVER THE INPUT: true; the input reads as it did. -/
def taskGoesSpec : ChangeSpec := { name := "taskGoes", fn := fun _ => fun
  | [d1, d2, d3, d4] => { results := [.lit (.bool true)], args := [d1, d2, d3, d4] }
  | _ => none }
def taskGoesRow : OpenClaim := { program := "ytbgfjhnbmfgccaa", sum := "5496c68f7789572dea9bc10be34caf3527aee67c561d0c0d54beaa2b4908e32a", func := "millhand/millhandlaw24.TaskGoes", spec := "taskGoes", apart := false }
def TaskGoesSaid : Prop := taskGoesRow.holds Try.pinned (OpenSpec.ofChange taskGoesSpec)

/-- ITS FALSE NEIGHBOUR: 'it returns false'. Refute it at one input. -/
def taskGoesWrong : ChangeSpec := { name := "taskGoes", fn := fun _ => fun
  | [d1, d2, d3, d4] => { results := [.lit (.bool false)], args := [d1, d2, d3, d4] }
  | _ => none }
def TaskGoesWrongFalsely : Prop := taskGoesRow.holds Try.pinned (OpenSpec.ofChange taskGoesWrong)

/- THE SECOND FORM. 'bulk': how many values and letters a reading holds, each counted each time it is reached (what is shared counts as often as it is met; a slice's spare places count too). A statement '..UptoSaid' is the law's where the arguments, and the package variables that the reading takes, are together of bulk at most 1048576: NARROWER than '..Said'. Prove '..Said' where nothing that the law and all that it calls make is longer than what came in: it says more and counts as full. Else prove '..UptoSaid'. A law counts once. -/
mutual
def uptoBulk {H : Type} : DataW H → Nat
  | .lit (.string bytes) => bytes.length + 1
  | .lit _ => 1
  | .nil => 1
  | .ptr d => uptoBulk d + 1
  | .slice elems spare => uptoBulkAll elems + uptoBulkAll spare + 1
  | .agg parts => uptoBulkAll parts + 1
  | .iface _ d => uptoBulk d + 1
  | .map entries => uptoBulkEntries entries + 1
  | .held _ => 1
def uptoBulkAll {H : Type} : List (DataW H) → Nat
  | [] => 0
  | d :: r => uptoBulk d + uptoBulkAll r
def uptoBulkEntries {H : Type} : List (Lit × DataW H) → Nat
  | [] => 0
  | x :: r => uptoBulkEntry x + uptoBulkEntries r
def uptoBulkEntry {H : Type} : Lit × DataW H → Nat
  | (.string bytes, d) => bytes.length + uptoBulk d + 1
  | (_, d) => uptoBulk d + 1
 end
def uptoSmall : (H : Type) → List (DataW H) → Bool := fun _ ds => decide (uptoBulkAll ds ≤ 1048576)
def OpenSpec.upto (s : _root_.Go.ChangeSpec) : _root_.Go.OpenSpec := { _root_.Go.OpenSpec.ofChange s with cond := some uptoSmall }

/-- 'millhandlaw24.TaskPauses', WHERE WHAT IT READS IS OF BULK AT MOST 1048576: true; the input reads as it did. -/
def taskPausesUptoRow : OpenClaim := { program := "ytbgfjhnbmfgccaa", sum := "5496c68f7789572dea9bc10be34caf3527aee67c561d0c0d54beaa2b4908e32a", func := "millhand/millhandlaw24.TaskPauses", spec := "taskPauses", apart := false, narrowed := true }
def TaskPausesUptoSaid : Prop := taskPausesUptoRow.holds Try.pinned (OpenSpec.upto taskPausesSpec)

/-- 'millhandlaw24.TaskRuns', WHERE WHAT IT READS IS OF BULK AT MOST 1048576: true; the input reads as it did. -/
def taskRunsUptoRow : OpenClaim := { program := "ytbgfjhnbmfgccaa", sum := "5496c68f7789572dea9bc10be34caf3527aee67c561d0c0d54beaa2b4908e32a", func := "millhand/millhandlaw24.TaskRuns", spec := "taskRuns", apart := false, narrowed := true }
def TaskRunsUptoSaid : Prop := taskRunsUptoRow.holds Try.pinned (OpenSpec.upto taskRunsSpec)

/-- 'millhandlaw24.TaskNames', WHERE WHAT IT READS IS OF BULK AT MOST 1048576: true; the input reads as it did. -/
def taskNamesUptoRow : OpenClaim := { program := "ytbgfjhnbmfgccaa", sum := "5496c68f7789572dea9bc10be34caf3527aee67c561d0c0d54beaa2b4908e32a", func := "millhand/millhandlaw24.TaskNames", spec := "taskNames", apart := false, narrowed := true }
def TaskNamesUptoSaid : Prop := taskNamesUptoRow.holds Try.pinned (OpenSpec.upto taskNamesSpec)

/-- 'millhandlaw24.TaskGoes', WHERE WHAT IT READS IS OF BULK AT MOST 1048576: true; the input reads as it did. -/
def taskGoesUptoRow : OpenClaim := { program := "ytbgfjhnbmfgccaa", sum := "5496c68f7789572dea9bc10be34caf3527aee67c561d0c0d54beaa2b4908e32a", func := "millhand/millhandlaw24.TaskGoes", spec := "taskGoes", apart := false, narrowed := true }
def TaskGoesUptoSaid : Prop := taskGoesUptoRow.holds Try.pinned (OpenSpec.upto taskGoesSpec)

end Rows
end Go.Proofs.Ytbgfjhnbmfgccaa

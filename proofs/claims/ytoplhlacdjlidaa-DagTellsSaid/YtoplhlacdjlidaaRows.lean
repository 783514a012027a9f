/-
  No cell of these rows narrows 'for every input' (looked for: loops, veiled, ifaces, maps, wideKeys, modest, calm, conditions, laid).
  DERIVED. THE GIVEN ROWS OF THIS SEAT. 6 by the template 'for every input the law returns true; each argument reads behind the call as it read before'; 0 by the template 'total and deterministic' (their statements: YtoplhlacdjlidaaTotals.lean).
  GIVEN WITH THE SEED: the statements are not yours to turn. If you find one false, say at which input.
  Laid BY PROGRAM, IN A SANDBOX (cutbox-rows.mjs): the forced cells as the released guide's own fill.sh prints them over the translation 59fb9c6c344395d9… (all of the seat's roots in one cut). By AI agents, Wed Nov 11 2026. No macro, syntax, notation, axiom, sorry.
-/
import Derived.Test.YtoplhlacdjlidaaChecked
import GoSem.Claim
import GoSem.ClaimJoined
import GoSem.ClaimMapViews
import Derived.JoinedTies
import Derived.KernelRfl
namespace Go.Proofs.Ytoplhlacdjlidaa
/- THE CELL 'sum', in the pinned program and in every row, IS THE sha256 OF THE DUMP (.gsa) THAT YtoplhlacdjlidaaProg.lean LOADS. Nothing in Lean hashes anything: it is a label: what it is worth is what the hold of that sum in a sandbox is worth. -/
noncomputable def Try.pinned : Pinned := { name := "ytoplhlacdjlidaa", sum := "59fb9c6c344395d95cb559493627908abc85a8b5cad0e41913e618bb255200d6", checked := Try.checked }
namespace Rows
def none {H : Type} : Left H := { results := [], args := [] }

/-- 'millhandlaw23.DagReads': WHATEVER THE INPUT: true; the input reads as it did. -/
def dagReadsSpec : ChangeSpec := { name := "dagReads", fn := fun _ => fun
  | [d] => { results := [.lit (.bool true)], args := [d] }
  | _ => none }
def dagReadsRow : OpenClaim := { program := "ytoplhlacdjlidaa", sum := "59fb9c6c344395d95cb559493627908abc85a8b5cad0e41913e618bb255200d6", func := "millhand/millhandlaw23.DagReads", spec := "dagReads", apart := false }
def DagReadsSaid : Prop := dagReadsRow.holds Try.pinned (OpenSpec.ofChange dagReadsSpec)

/-- ITS FALSE NEIGHBOUR: 'it returns false'. Refute it at one input. -/
def dagReadsWrong : ChangeSpec := { name := "dagReads", fn := fun _ => fun
  | [d] => { results := [.lit (.bool false)], args := [d] }
  | _ => none }
def DagReadsWrongFalsely : Prop := dagReadsRow.holds Try.pinned (OpenSpec.ofChange dagReadsWrong)

/-- 'millhandlaw23.DagOrder': WHATEVER THE INPUT: true; the input reads as it did. -/
def dagOrderSpec : ChangeSpec := { name := "dagOrder", fn := fun _ => fun
  | [d] => { results := [.lit (.bool true)], args := [d] }
  | _ => none }
def dagOrderRow : OpenClaim := { program := "ytoplhlacdjlidaa", sum := "59fb9c6c344395d95cb559493627908abc85a8b5cad0e41913e618bb255200d6", func := "millhand/millhandlaw23.DagOrder", spec := "dagOrder", unfollowed := true, recurses := true, apart := false }
def DagOrderSaid : Prop := dagOrderRow.holds Try.pinned (OpenSpec.ofChange dagOrderSpec)

/-- ITS FALSE NEIGHBOUR: 'it returns false'. Refute it at one input. -/
def dagOrderWrong : ChangeSpec := { name := "dagOrder", fn := fun _ => fun
  | [d] => { results := [.lit (.bool false)], args := [d] }
  | _ => none }
def DagOrderWrongFalsely : Prop := dagOrderRow.holds Try.pinned (OpenSpec.ofChange dagOrderWrong)

/-- 'millhandlaw23.DagGoes': WHATEVER THE INPUT: true; the input reads as it did. -/
def dagGoesSpec : ChangeSpec := { name := "dagGoes", fn := fun _ => fun
  | [d1, d2] => { results := [.lit (.bool true)], args := [d1, d2] }
  | _ => none }
def dagGoesRow : OpenClaim := { program := "ytoplhlacdjlidaa", sum := "59fb9c6c344395d95cb559493627908abc85a8b5cad0e41913e618bb255200d6", func := "millhand/millhandlaw23.DagGoes", spec := "dagGoes", unfollowed := true, recurses := true, apart := false }
def DagGoesSaid : Prop := dagGoesRow.holds Try.pinned (OpenSpec.ofChange dagGoesSpec)

/-- ITS FALSE NEIGHBOUR: 'it returns false'. Refute it at one input. -/
def dagGoesWrong : ChangeSpec := { name := "dagGoes", fn := fun _ => fun
  | [d1, d2] => { results := [.lit (.bool false)], args := [d1, d2] }
  | _ => none }
def DagGoesWrongFalsely : Prop := dagGoesRow.holds Try.pinned (OpenSpec.ofChange dagGoesWrong)

/-- 'millhandlaw23.DagTells': WHATEVER THE INPUT: true; the input reads as it did. -/
def dagTellsSpec : ChangeSpec := { name := "dagTells", fn := fun _ => fun
  | [d1, d2, d3] => { results := [.lit (.bool true)], args := [d1, d2, d3] }
  | _ => none }
def dagTellsRow : OpenClaim := { program := "ytoplhlacdjlidaa", sum := "59fb9c6c344395d95cb559493627908abc85a8b5cad0e41913e618bb255200d6", func := "millhand/millhandlaw23.DagTells", spec := "dagTells", unfollowed := true, recurses := true, apart := false }
def DagTellsSaid : Prop := dagTellsRow.holds Try.pinned (OpenSpec.ofChange dagTellsSpec)

/-- ITS FALSE NEIGHBOUR: 'it returns false'. Refute it at one input. -/
def dagTellsWrong : ChangeSpec := { name := "dagTells", fn := fun _ => fun
  | [d1, d2, d3] => { results := [.lit (.bool false)], args := [d1, d2, d3] }
  | _ => none }
def DagTellsWrongFalsely : Prop := dagTellsRow.holds Try.pinned (OpenSpec.ofChange dagTellsWrong)

/-- 'millhandlaw23.DagNames': WHATEVER THE INPUT: true; the input reads as it did. -/
def dagNamesSpec : ChangeSpec := { name := "dagNames", fn := fun _ => fun
  | [] => { results := [.lit (.bool true)], args := [] }
  | _ => none }
def dagNamesRow : OpenClaim := { program := "ytoplhlacdjlidaa", sum := "59fb9c6c344395d95cb559493627908abc85a8b5cad0e41913e618bb255200d6", func := "millhand/millhandlaw23.DagNames", spec := "dagNames", unfollowed := true, recurses := true, apart := false }
def DagNamesSaid : Prop := dagNamesRow.holds Try.pinned (OpenSpec.ofChange dagNamesSpec)

/-- ITS FALSE NEIGHBOUR: 'it returns false'. Refute it at one input. -/
def dagNamesWrong : ChangeSpec := { name := "dagNames", fn := fun _ => fun
  | [] => { results := [.lit (.bool false)], args := [] }
  | _ => none }
def DagNamesWrongFalsely : Prop := dagNamesRow.holds Try.pinned (OpenSpec.ofChange dagNamesWrong)

/-- 'millhandlaw23.DagBack': WHATEVER THE INPUT: true; the input reads as it did. -/
def dagBackSpec : ChangeSpec := { name := "dagBack", fn := fun _ => fun
  | [d] => { results := [.lit (.bool true)], args := [d] }
  | _ => none }
def dagBackRow : OpenClaim := { program := "ytoplhlacdjlidaa", sum := "59fb9c6c344395d95cb559493627908abc85a8b5cad0e41913e618bb255200d6", func := "millhand/millhandlaw23.DagBack", spec := "dagBack", unfollowed := true, recurses := true, apart := false }
def DagBackSaid : Prop := dagBackRow.holds Try.pinned (OpenSpec.ofChange dagBackSpec)

/-- ITS FALSE NEIGHBOUR: 'it returns false'. Refute it at one input. -/
def dagBackWrong : ChangeSpec := { name := "dagBack", fn := fun _ => fun
  | [d] => { results := [.lit (.bool false)], args := [d] }
  | _ => none }
def DagBackWrongFalsely : Prop := dagBackRow.holds Try.pinned (OpenSpec.ofChange dagBackWrong)

/- THE SECOND FORM. 'bulk': how many values and letters a reading holds, each counted each time it is reached (what is shared counts as often as it is met; a slice's spare places count too). A statement '..UptoSaid' is the law's where the arguments, and the package variables that the reading takes, are together of bulk at most 1048576: NARROWER than '..Said'. Prove '..Said' where nothing that the law and all that it calls make is longer than what came in: it says more and counts as full. Else prove '..UptoSaid'. A law counts once. -/
mutual
def uptoBulk {H : Type} : DataW H → Nat
  | .lit (.string bytes) => bytes.length + 1
  | .lit _ => 1
  | .nil => 1
  | .ptr d => uptoBulk d + 1
  | .slice elems spare => uptoBulkAll elems + uptoBulkAll spare + 1
  | .agg parts => uptoBulkAll parts + 1
  | .iface _ d => uptoBulk d + 1
  | .map entries => uptoBulkEntries entries + 1
  | .held _ => 1
def uptoBulkAll {H : Type} : List (DataW H) → Nat
  | [] => 0
  | d :: r => uptoBulk d + uptoBulkAll r
def uptoBulkEntries {H : Type} : List (Lit × DataW H) → Nat
  | [] => 0
  | x :: r => uptoBulkEntry x + uptoBulkEntries r
def uptoBulkEntry {H : Type} : Lit × DataW H → Nat
  | (.string bytes, d) => bytes.length + uptoBulk d + 1
  | (_, d) => uptoBulk d + 1
 end
def uptoSmall : (H : Type) → List (DataW H) → Bool := fun _ ds => decide (uptoBulkAll ds ≤ 1048576)
def OpenSpec.upto (s : _root_.Go.ChangeSpec) : _root_.Go.OpenSpec := { _root_.Go.OpenSpec.ofChange s with cond := some uptoSmall }

/-- 'millhandlaw23.DagReads', WHERE WHAT IT READS IS OF BULK AT MOST 1048576: true; the input reads as it did. -/
def dagReadsUptoRow : OpenClaim := { program := "ytoplhlacdjlidaa", sum := "59fb9c6c344395d95cb559493627908abc85a8b5cad0e41913e618bb255200d6", func := "millhand/millhandlaw23.DagReads", spec := "dagReads", apart := false, narrowed := true }
def DagReadsUptoSaid : Prop := dagReadsUptoRow.holds Try.pinned (OpenSpec.upto dagReadsSpec)

/-- 'millhandlaw23.DagOrder', WHERE WHAT IT READS IS OF BULK AT MOST 1048576: true; the input reads as it did. -/
def dagOrderUptoRow : OpenClaim := { program := "ytoplhlacdjlidaa", sum := "59fb9c6c344395d95cb559493627908abc85a8b5cad0e41913e618bb255200d6", func := "millhand/millhandlaw23.DagOrder", spec := "dagOrder", unfollowed := true, recurses := true, apart := false, narrowed := true }
def DagOrderUptoSaid : Prop := dagOrderUptoRow.holds Try.pinned (OpenSpec.upto dagOrderSpec)

/-- 'millhandlaw23.DagGoes', WHERE WHAT IT READS IS OF BULK AT MOST 1048576: true; the input reads as it did. -/
def dagGoesUptoRow : OpenClaim := { program := "ytoplhlacdjlidaa", sum := "59fb9c6c344395d95cb559493627908abc85a8b5cad0e41913e618bb255200d6", func := "millhand/millhandlaw23.DagGoes", spec := "dagGoes", unfollowed := true, recurses := true, apart := false, narrowed := true }
def DagGoesUptoSaid : Prop := dagGoesUptoRow.holds Try.pinned (OpenSpec.upto dagGoesSpec)

/-- 'millhandlaw23.DagTells', WHERE WHAT IT READS IS OF BULK AT MOST 1048576: true; the input reads as it did. -/
def dagTellsUptoRow : OpenClaim := { program := "ytoplhlacdjlidaa", sum := "59fb9c6c344395d95cb559493627908abc85a8b5cad0e41913e618bb255200d6", func := "millhand/millhandlaw23.DagTells", spec := "dagTells", unfollowed := true, recurses := true, apart := false, narrowed := true }
def DagTellsUptoSaid : Prop := dagTellsUptoRow.holds Try.pinned (OpenSpec.upto dagTellsSpec)

/-- 'millhandlaw23.DagNames', WHERE WHAT IT READS IS OF BULK AT MOST 1048576: true; the input reads as it did. -/
def dagNamesUptoRow : OpenClaim := { program := "ytoplhlacdjlidaa", sum := "59fb9c6c344395d95cb559493627908abc85a8b5cad0e41913e618bb255200d6", func := "millhand/millhandlaw23.DagNames", spec := "dagNames", unfollowed := true, recurses := true, apart := false, narrowed := true }
def DagNamesUptoSaid : Prop := dagNamesUptoRow.holds Try.pinned (OpenSpec.upto dagNamesSpec)

/-- 'millhandlaw23.DagBack', WHERE WHAT IT READS IS OF BULK AT MOST 1048576: true; the input reads as it did. -/
def dagBackUptoRow : OpenClaim := { program := "ytoplhlacdjlidaa", sum := "59fb9c6c344395d95cb559493627908abc85a8b5cad0e41913e618bb255200d6", func := "millhand/millhandlaw23.DagBack", spec := "dagBack", unfollowed := true, recurses := true, apart := false, narrowed := true }
def DagBackUptoSaid : Prop := dagBackUptoRow.holds Try.pinned (OpenSpec.upto dagBackSpec)

end Rows
end Go.Proofs.Ytoplhlacdjlidaa

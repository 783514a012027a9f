/-
  No cell of these rows narrows 'for every input' (looked for: loops, veiled, ifaces, maps, wideKeys, modest, calm, conditions, laid).
  DERIVED. THE GIVEN ROWS OF THIS SEAT. 4 by the template 'for every input the law returns true; each argument reads behind the call as it read before'; 0 by the template 'total and deterministic' (their statements: YtbiphljdommacaaTotals.lean).
  GIVEN WITH THE SEED: the statements are not yours to turn. If you find one false, say at which input.
  Laid BY PROGRAM, IN A SANDBOX (cutbox-rows.mjs): the forced cells as the released guide's own fill.sh prints them over the translation a10481e1c4b28862… (all of the seat's roots in one cut). By AI agents, Wed Nov 11 2026. No macro, syntax, notation, axiom, sorry.
-/
import Derived.Test.YtbiphljdommacaaChecked
import GoSem.Claim
import GoSem.ClaimJoined
import GoSem.ClaimMapViews
import Derived.JoinedTies
import Derived.KernelRfl
namespace Go.Proofs.Ytbiphljdommacaa
/- THE CELL 'sum', in the pinned program and in every row, IS THE sha256 OF THE DUMP (.gsa) THAT YtbiphljdommacaaProg.lean LOADS. Nothing in Lean hashes anything: it is a label: what it is worth is what the hold of that sum in a sandbox is worth. -/
noncomputable def Try.pinned : Pinned := { name := "ytbiphljdommacaa", sum := "a10481e1c4b28862573d10054111519d191912b193ca1ccf58afcf70ed2f0cbb", checked := Try.checked }
namespace Rows
def none {H : Type} : Left H := { results := [], args := [] }

/-- 'millhandlaw25.RunEnds': WHATEVER THE INPUT: true; the input reads as it did. -/
def runEndsSpec : ChangeSpec := { name := "runEnds", fn := fun _ => fun
  | [d1, d2] => { results := [.lit (.bool true)], args := [d1, d2] }
  | _ => none }
def runEndsRow : OpenClaim := { program := "ytbiphljdommacaa", sum := "a10481e1c4b28862573d10054111519d191912b193ca1ccf58afcf70ed2f0cbb", func := "millhand/millhandlaw25.RunEnds", spec := "runEnds", unfollowed := true, recurses := true, apart := false }
def RunEndsSaid : Prop := runEndsRow.holds Try.pinned (OpenSpec.ofChange runEndsSpec)

/-- ITS FALSE NEIGHBOUR: 'it returns false'. Refute it at one input. -/
def runEndsWrong : ChangeSpec := { name := "runEnds", fn := fun _ => fun
  | [d1, d2] => { results := [.lit (.bool false)], args := [d1, d2] }
  | _ => none }
def RunEndsWrongFalsely : Prop := runEndsRow.holds Try.pinned (OpenSpec.ofChange runEndsWrong)

/-- 'millhandlaw25.RunNames': WHATEVER THE INPUT: true; the input reads as it did. -/
def runNamesSpec : ChangeSpec := { name := "runNames", fn := fun _ => fun
  | [] => { results := [.lit (.bool true)], args := [] }
  | _ => none }
def runNamesRow : OpenClaim := { program := "ytbiphljdommacaa", sum := "a10481e1c4b28862573d10054111519d191912b193ca1ccf58afcf70ed2f0cbb", func := "millhand/millhandlaw25.RunNames", spec := "runNames", unfollowed := true, recurses := true, apart := false }
def RunNamesSaid : Prop := runNamesRow.holds Try.pinned (OpenSpec.ofChange runNamesSpec)

/-- ITS FALSE NEIGHBOUR: 'it returns false'. Refute it at one input. -/
def runNamesWrong : ChangeSpec := { name := "runNames", fn := fun _ => fun
  | [] => { results := [.lit (.bool false)], args := [] }
  | _ => none }
def RunNamesWrongFalsely : Prop := runNamesRow.holds Try.pinned (OpenSpec.ofChange runNamesWrong)

/-- 'millhandlaw25.RunShut': WHATEVER THE INPUT: true; the input reads as it did. -/
def runShutSpec : ChangeSpec := { name := "runShut", fn := fun _ => fun
  | [d1, d2, d3, d4] => { results := [.lit (.bool true)], args := [d1, d2, d3, d4] }
  | _ => none }
def runShutRow : OpenClaim := { program := "ytbiphljdommacaa", sum := "a10481e1c4b28862573d10054111519d191912b193ca1ccf58afcf70ed2f0cbb", func := "millhand/millhandlaw25.RunShut", spec := "runShut", unfollowed := true, recurses := true, apart := false }
def RunShutSaid : Prop := runShutRow.holds Try.pinned (OpenSpec.ofChange runShutSpec)

/-- ITS FALSE NEIGHBOUR: 'it returns false'. Refute it at one input. -/
def runShutWrong : ChangeSpec := { name := "runShut", fn := fun _ => fun
  | [d1, d2, d3, d4] => { results := [.lit (.bool false)], args := [d1, d2, d3, d4] }
  | _ => none }
def RunShutWrongFalsely : Prop := runShutRow.holds Try.pinned (OpenSpec.ofChange runShutWrong)

/-- 'millhandlaw25.RunKeeps': WHATEVER THE INPUT: true; the input reads as it did. -/
def runKeepsSpec : ChangeSpec := { name := "runKeeps", fn := fun _ => fun
  | [d1, d2] => { results := [.lit (.bool true)], args := [d1, d2] }
  | _ => none }
def runKeepsRow : OpenClaim := { program := "ytbiphljdommacaa", sum := "a10481e1c4b28862573d10054111519d191912b193ca1ccf58afcf70ed2f0cbb", func := "millhand/millhandlaw25.RunKeeps", spec := "runKeeps", unfollowed := true, recurses := true, apart := false }
def RunKeepsSaid : Prop := runKeepsRow.holds Try.pinned (OpenSpec.ofChange runKeepsSpec)

/-- ITS FALSE NEIGHBOUR: 'it returns false'. Refute it at one input. -/
def runKeepsWrong : ChangeSpec := { name := "runKeeps", fn := fun _ => fun
  | [d1, d2] => { results := [.lit (.bool false)], args := [d1, d2] }
  | _ => none }
def RunKeepsWrongFalsely : Prop := runKeepsRow.holds Try.pinned (OpenSpec.ofChange runKeepsWrong)

/- THE SECOND FORM. 'bulk': how many values and letters a reading holds, each counted each time it is reached (what is shared counts as often as it is met; a slice's spare places count too). A statement '..UptoSaid' is the law's where the arguments, and the package variables that the reading takes, are together of bulk at most 1048576: NARROWER than '..Said'. Prove '..Said' where nothing that the law and all that it calls make is longer than what came in: it says more and counts as full. Else prove '..UptoSaid'. A law counts once. -/
mutual
def uptoBulk {H : Type} : DataW H → Nat
  | .lit (.string bytes) => bytes.length + 1
  | .lit _ => 1
  | .nil => 1
  | .ptr d => uptoBulk d + 1
  | .slice elems spare => uptoBulkAll elems + uptoBulkAll spare + 1
  | .agg parts => uptoBulkAll parts + 1
  | .iface _ d => uptoBulk d + 1
  | .map entries => uptoBulkEntries entries + 1
  | .held _ => 1
def uptoBulkAll {H : Type} : List (DataW H) → Nat
  | [] => 0
  | d :: r => uptoBulk d + uptoBulkAll r
def uptoBulkEntries {H : Type} : List (Lit × DataW H) → Nat
  | [] => 0
  | x :: r => uptoBulkEntry x + uptoBulkEntries r
def uptoBulkEntry {H : Type} : Lit × DataW H → Nat
  | (.string bytes, d) => bytes.length + uptoBulk d + 1
  | (_, d) => uptoBulk d + 1
 end
def uptoSmall : (H : Type) → List (DataW H) → Bool := fun _ ds => decide (uptoBulkAll ds ≤ 1048576)
def OpenSpec.upto (s : _root_.Go.ChangeSpec) : _root_.Go.OpenSpec := { _root_.Go.OpenSpec.ofChange s with cond := some uptoSmall }

/-- 'millhandlaw25.RunEnds', WHERE WHAT IT READS IS OF BULK AT MOST 1048576: true; the input reads as it did. -/
def runEndsUptoRow : OpenClaim := { program := "ytbiphljdommacaa", sum := "a10481e1c4b28862573d10054111519d191912b193ca1ccf58afcf70ed2f0cbb", func := "millhand/millhandlaw25.RunEnds", spec := "runEnds", unfollowed := true, recurses := true, apart := false, narrowed := true }
def RunEndsUptoSaid : Prop := runEndsUptoRow.holds Try.pinned (OpenSpec.upto runEndsSpec)

/-- 'millhandlaw25.RunNames', WHERE WHAT IT READS IS OF BULK AT MOST 1048576: true; the input reads as it did. -/
def runNamesUptoRow : OpenClaim := { program := "ytbiphljdommacaa", sum := "a10481e1c4b28862573d10054111519d191912b193ca1ccf58afcf70ed2f0cbb", func := "millhand/millhandlaw25.RunNames", spec := "runNames", unfollowed := true, recurses := true, apart := false, narrowed := true }
def RunNamesUptoSaid : Prop := runNamesUptoRow.holds Try.pinned (OpenSpec.upto runNamesSpec)

/-- 'millhandlaw25.RunShut', WHERE WHAT IT READS IS OF BULK AT MOST 1048576: true; the input reads as it did. -/
def runShutUptoRow : OpenClaim := { program := "ytbiphljdommacaa", sum := "a10481e1c4b28862573d10054111519d191912b193ca1ccf58afcf70ed2f0cbb", func := "millhand/millhandlaw25.RunShut", spec := "runShut", unfollowed := true, recurses := true, apart := false, narrowed := true }
def RunShutUptoSaid : Prop := runShutUptoRow.holds Try.pinned (OpenSpec.upto runShutSpec)

/-- 'millhandlaw25.RunKeeps', WHERE WHAT IT READS IS OF BULK AT MOST 1048576: true; the input reads as it did. -/
def runKeepsUptoRow : OpenClaim := { program := "ytbiphljdommacaa", sum := "a10481e1c4b28862573d10054111519d191912b193ca1ccf58afcf70ed2f0cbb", func := "millhand/millhandlaw25.RunKeeps", spec := "runKeeps", unfollowed := true, recurses := true, apart := false, narrowed := true }
def RunKeepsUptoSaid : Prop := runKeepsUptoRow.holds Try.pinned (OpenSpec.upto runKeepsSpec)

end Rows
end Go.Proofs.Ytbiphljdommacaa

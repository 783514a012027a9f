/-
  No cell of these rows narrows 'for every input' (looked for: loops, veiled, ifaces, maps, wideKeys, modest, calm, conditions, laid).
  DERIVED. THE GIVEN ROWS OF THIS SEAT. 5 by the template 'for every input the law returns true; each argument reads behind the call as it read before'; 0 by the template 'total and deterministic' (their statements: YtdlghckcbbjipaaTotals.lean).
  GIVEN WITH THE SEED: the statements are not yours to turn. If you find one false, say at which input.
  Laid BY PROGRAM, IN A SANDBOX (cutbox-rows.mjs): the forced cells as the released guide's own fill.sh prints them over the translation 8916a3ce82f1a145… (all of the seat's roots in one cut). By AI agents, Wed Nov 11 2026. No macro, syntax, notation, axiom, sorry.
-/
import Derived.Test.YtdlghckcbbjipaaChecked
import GoSem.Claim
import GoSem.ClaimJoined
import GoSem.ClaimMapViews
import Derived.JoinedTies
import Derived.KernelRfl
namespace Go.Proofs.Ytdlghckcbbjipaa
/- THE CELL 'sum', in the pinned program and in every row, IS THE sha256 OF THE DUMP (.gsa) THAT YtdlghckcbbjipaaProg.lean LOADS. Nothing in Lean hashes anything: it is a label: what it is worth is what the hold of that sum in a sandbox is worth. -/
noncomputable def Try.pinned : Pinned := { name := "ytdlghckcbbjipaa", sum := "8916a3ce82f1a14598a950a6a1435f4322054b573b6ad547069e5a56c3cfe8b8", checked := Try.checked }
namespace Rows
def none {H : Type} : Left H := { results := [], args := [] }

/-- 'millhandlaw16.VersionMeets': WHATEVER THE INPUT: true; the input reads as it did. -/
def versionMeetsSpec : ChangeSpec := { name := "versionMeets", fn := fun _ => fun
  | [d1, d2, d3, d4, d5] => { results := [.lit (.bool true)], args := [d1, d2, d3, d4, d5] }
  | _ => none }
def versionMeetsRow : OpenClaim := { program := "ytdlghckcbbjipaa", sum := "8916a3ce82f1a14598a950a6a1435f4322054b573b6ad547069e5a56c3cfe8b8", func := "millhand/millhandlaw16.VersionMeets", spec := "versionMeets", apart := false }
def VersionMeetsSaid : Prop := versionMeetsRow.holds Try.pinned (OpenSpec.ofChange versionMeetsSpec)

/-- ITS FALSE NEIGHBOUR: 'it returns false'. Refute it at one input. -/
def versionMeetsWrong : ChangeSpec := { name := "versionMeets", fn := fun _ => fun
  | [d1, d2, d3, d4, d5] => { results := [.lit (.bool false)], args := [d1, d2, d3, d4, d5] }
  | _ => none }
def VersionMeetsWrongFalsely : Prop := versionMeetsRow.holds Try.pinned (OpenSpec.ofChange versionMeetsWrong)

/-- 'millhandlaw16.VersionGoes': WHATEVER THE INPUT: true; the input reads as it did. -/
def versionGoesSpec : ChangeSpec := { name := "versionGoes", fn := fun _ => fun
  | [d1, d2, d3, d4, d5] => { results := [.lit (.bool true)], args := [d1, d2, d3, d4, d5] }
  | _ => none }
def versionGoesRow : OpenClaim := { program := "ytdlghckcbbjipaa", sum := "8916a3ce82f1a14598a950a6a1435f4322054b573b6ad547069e5a56c3cfe8b8", func := "millhand/millhandlaw16.VersionGoes", spec := "versionGoes", unfollowed := true, recurses := true, apart := false }
def VersionGoesSaid : Prop := versionGoesRow.holds Try.pinned (OpenSpec.ofChange versionGoesSpec)

/-- ITS FALSE NEIGHBOUR: 'it returns false'. Refute it at one input. -/
def versionGoesWrong : ChangeSpec := { name := "versionGoes", fn := fun _ => fun
  | [d1, d2, d3, d4, d5] => { results := [.lit (.bool false)], args := [d1, d2, d3, d4, d5] }
  | _ => none }
def VersionGoesWrongFalsely : Prop := versionGoesRow.holds Try.pinned (OpenSpec.ofChange versionGoesWrong)

/-- 'millhandlaw16.VersionSwaps': WHATEVER THE INPUT: true; the input reads as it did. -/
def versionSwapsSpec : ChangeSpec := { name := "versionSwaps", fn := fun _ => fun
  | [d1, d2, d3, d4] => { results := [.lit (.bool true)], args := [d1, d2, d3, d4] }
  | _ => none }
def versionSwapsRow : OpenClaim := { program := "ytdlghckcbbjipaa", sum := "8916a3ce82f1a14598a950a6a1435f4322054b573b6ad547069e5a56c3cfe8b8", func := "millhand/millhandlaw16.VersionSwaps", spec := "versionSwaps", unfollowed := true, recurses := true, apart := false }
def VersionSwapsSaid : Prop := versionSwapsRow.holds Try.pinned (OpenSpec.ofChange versionSwapsSpec)

/-- ITS FALSE NEIGHBOUR: 'it returns false'. Refute it at one input. -/
def versionSwapsWrong : ChangeSpec := { name := "versionSwaps", fn := fun _ => fun
  | [d1, d2, d3, d4] => { results := [.lit (.bool false)], args := [d1, d2, d3, d4] }
  | _ => none }
def VersionSwapsWrongFalsely : Prop := versionSwapsRow.holds Try.pinned (OpenSpec.ofChange versionSwapsWrong)

/-- 'millhandlaw16.VersionTells': WHATEVER THE INPUT: true; the input reads as it did. -/
def versionTellsSpec : ChangeSpec := { name := "versionTells", fn := fun _ => fun
  | [d1, d2, d3, d4] => { results := [.lit (.bool true)], args := [d1, d2, d3, d4] }
  | _ => none }
def versionTellsRow : OpenClaim := { program := "ytdlghckcbbjipaa", sum := "8916a3ce82f1a14598a950a6a1435f4322054b573b6ad547069e5a56c3cfe8b8", func := "millhand/millhandlaw16.VersionTells", spec := "versionTells", recurses := true, apart := false }
def VersionTellsSaid : Prop := versionTellsRow.holds Try.pinned (OpenSpec.ofChange versionTellsSpec)

/-- ITS FALSE NEIGHBOUR: 'it returns false'. Refute it at one input. -/
def versionTellsWrong : ChangeSpec := { name := "versionTells", fn := fun _ => fun
  | [d1, d2, d3, d4] => { results := [.lit (.bool false)], args := [d1, d2, d3, d4] }
  | _ => none }
def VersionTellsWrongFalsely : Prop := versionTellsRow.holds Try.pinned (OpenSpec.ofChange versionTellsWrong)

/-- 'millhandlaw16.VersionNames': WHATEVER THE INPUT: true; the input reads as it did. -/
def versionNamesSpec : ChangeSpec := { name := "versionNames", fn := fun _ => fun
  | [] => { results := [.lit (.bool true)], args := [] }
  | _ => none }
def versionNamesRow : OpenClaim := { program := "ytdlghckcbbjipaa", sum := "8916a3ce82f1a14598a950a6a1435f4322054b573b6ad547069e5a56c3cfe8b8", func := "millhand/millhandlaw16.VersionNames", spec := "versionNames", unfollowed := true, recurses := true, apart := false }
def VersionNamesSaid : Prop := versionNamesRow.holds Try.pinned (OpenSpec.ofChange versionNamesSpec)

/-- ITS FALSE NEIGHBOUR: 'it returns false'. Refute it at one input. -/
def versionNamesWrong : ChangeSpec := { name := "versionNames", fn := fun _ => fun
  | [] => { results := [.lit (.bool false)], args := [] }
  | _ => none }
def VersionNamesWrongFalsely : Prop := versionNamesRow.holds Try.pinned (OpenSpec.ofChange versionNamesWrong)

/- THE SECOND FORM. 'bulk': how many values and letters a reading holds, each counted each time it is reached (what is shared counts as often as it is met; a slice's spare places count too). A statement '..UptoSaid' is the law's where the arguments, and the package variables that the reading takes, are together of bulk at most 1048576: NARROWER than '..Said'. Prove '..Said' where nothing that the law and all that it calls make is longer than what came in: it says more and counts as full. Else prove '..UptoSaid'. A law counts once. -/
mutual
def uptoBulk {H : Type} : DataW H → Nat
  | .lit (.string bytes) => bytes.length + 1
  | .lit _ => 1
  | .nil => 1
  | .ptr d => uptoBulk d + 1
  | .slice elems spare => uptoBulkAll elems + uptoBulkAll spare + 1
  | .agg parts => uptoBulkAll parts + 1
  | .iface _ d => uptoBulk d + 1
  | .map entries => uptoBulkEntries entries + 1
  | .held _ => 1
def uptoBulkAll {H : Type} : List (DataW H) → Nat
  | [] => 0
  | d :: r => uptoBulk d + uptoBulkAll r
def uptoBulkEntries {H : Type} : List (Lit × DataW H) → Nat
  | [] => 0
  | x :: r => uptoBulkEntry x + uptoBulkEntries r
def uptoBulkEntry {H : Type} : Lit × DataW H → Nat
  | (.string bytes, d) => bytes.length + uptoBulk d + 1
  | (_, d) => uptoBulk d + 1
 end
def uptoSmall : (H : Type) → List (DataW H) → Bool := fun _ ds => decide (uptoBulkAll ds ≤ 1048576)
def OpenSpec.upto (s : _root_.Go.ChangeSpec) : _root_.Go.OpenSpec := { _root_.Go.OpenSpec.ofChange s with cond := some uptoSmall }

/-- 'millhandlaw16.VersionMeets', WHERE WHAT IT READS IS OF BULK AT MOST 1048576: true; the input reads as it did. -/
def versionMeetsUptoRow : OpenClaim := { program := "ytdlghckcbbjipaa", sum := "8916a3ce82f1a14598a950a6a1435f4322054b573b6ad547069e5a56c3cfe8b8", func := "millhand/millhandlaw16.VersionMeets", spec := "versionMeets", apart := false, narrowed := true }
def VersionMeetsUptoSaid : Prop := versionMeetsUptoRow.holds Try.pinned (OpenSpec.upto versionMeetsSpec)

/-- 'millhandlaw16.VersionGoes', WHERE WHAT IT READS IS OF BULK AT MOST 1048576: true; the input reads as it did. -/
def versionGoesUptoRow : OpenClaim := { program := "ytdlghckcbbjipaa", sum := "8916a3ce82f1a14598a950a6a1435f4322054b573b6ad547069e5a56c3cfe8b8", func := "millhand/millhandlaw16.VersionGoes", spec := "versionGoes", unfollowed := true, recurses := true, apart := false, narrowed := true }
def VersionGoesUptoSaid : Prop := versionGoesUptoRow.holds Try.pinned (OpenSpec.upto versionGoesSpec)

/-- 'millhandlaw16.VersionSwaps', WHERE WHAT IT READS IS OF BULK AT MOST 1048576: true; the input reads as it did. -/
def versionSwapsUptoRow : OpenClaim := { program := "ytdlghckcbbjipaa", sum := "8916a3ce82f1a14598a950a6a1435f4322054b573b6ad547069e5a56c3cfe8b8", func := "millhand/millhandlaw16.VersionSwaps", spec := "versionSwaps", unfollowed := true, recurses := true, apart := false, narrowed := true }
def VersionSwapsUptoSaid : Prop := versionSwapsUptoRow.holds Try.pinned (OpenSpec.upto versionSwapsSpec)

/-- 'millhandlaw16.VersionTells', WHERE WHAT IT READS IS OF BULK AT MOST 1048576: true; the input reads as it did. -/
def versionTellsUptoRow : OpenClaim := { program := "ytdlghckcbbjipaa", sum := "8916a3ce82f1a14598a950a6a1435f4322054b573b6ad547069e5a56c3cfe8b8", func := "millhand/millhandlaw16.VersionTells", spec := "versionTells", recurses := true, apart := false, narrowed := true }
def VersionTellsUptoSaid : Prop := versionTellsUptoRow.holds Try.pinned (OpenSpec.upto versionTellsSpec)

/-- 'millhandlaw16.VersionNames', WHERE WHAT IT READS IS OF BULK AT MOST 1048576: true; the input reads as it did. -/
def versionNamesUptoRow : OpenClaim := { program := "ytdlghckcbbjipaa", sum := "8916a3ce82f1a14598a950a6a1435f4322054b573b6ad547069e5a56c3cfe8b8", func := "millhand/millhandlaw16.VersionNames", spec := "versionNames", unfollowed := true, recurses := true, apart := false, narrowed := true }
def VersionNamesUptoSaid : Prop := versionNamesUptoRow.holds Try.pinned (OpenSpec.upto versionNamesSpec)

end Rows
end Go.Proofs.Ytdlghckcbbjipaa

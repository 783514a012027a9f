/-
  No cell of these rows narrows 'for every input' (looked for: loops, veiled, ifaces, maps, wideKeys, modest, calm, conditions, laid).
  DERIVED. THE GIVEN ROWS OF THIS SEAT. 4 by the template 'for every input the law returns true; each argument reads behind the call as it read before'; 0 by the template 'total and deterministic' (their statements: YtmnkdagfgfcnjaaTotals.lean).
  GIVEN WITH THE SEED: the statements are not yours to turn. If you find one false, say at which input.
  Laid BY PROGRAM, IN A SANDBOX (cutbox-rows.mjs): the forced cells as the released guide's own fill.sh prints them over the translation c2fc620a83395d14… (all of the seat's roots in one cut). By AI agents, Wed Nov 11 2026. No macro, syntax, notation, axiom, sorry.
-/
import Derived.Test.YtmnkdagfgfcnjaaChecked
import GoSem.Claim
import GoSem.ClaimJoined
import GoSem.ClaimMapViews
import Derived.JoinedTies
import Derived.KernelRfl
namespace Go.Proofs.Ytmnkdagfgfcnjaa
/- THE CELL 'sum', in the pinned program and in every row, IS THE sha256 OF THE DUMP (.gsa) THAT YtmnkdagfgfcnjaaProg.lean LOADS. Nothing in Lean hashes anything: it is a label: what it is worth is what the hold of that sum in a sandbox is worth. -/
noncomputable def Try.pinned : Pinned := { name := "ytmnkdagfgfcnjaa", sum := "c2fc620a83395d14782a52c1507fdaebefa37aed9748f6f997e98ee7afec910b", checked := Try.checked }
namespace Rows
def none {H : Type} : Left H := { results := [], args := [] }

/-- 'millhandlaw13.SieveNames': WHATEVER THE INPUT: true; the input reads as it did. -/
def sieveNamesSpec : ChangeSpec := { name := "sieveNames", fn := fun _ => fun
  | [] => { results := [.lit (.bool true)], args := [] }
  | _ => none }
def sieveNamesRow : OpenClaim := { program := "ytmnkdagfgfcnjaa", sum := "c2fc620a83395d14782a52c1507fdaebefa37aed9748f6f997e98ee7afec910b", func := "millhand/millhandlaw13.SieveNames", spec := "sieveNames", unfollowed := true, recurses := true, apart := false }
def SieveNamesSaid : Prop := sieveNamesRow.holds Try.pinned (OpenSpec.ofChange sieveNamesSpec)

/-- ITS FALSE NEIGHBOUR: 'it returns false'. Refute it at one input. -/
def sieveNamesWrong : ChangeSpec := { name := "sieveNames", fn := fun _ => fun
  | [] => { results := [.lit (.bool false)], args := [] }
  | _ => none }
def SieveNamesWrongFalsely : Prop := sieveNamesRow.holds Try.pinned (OpenSpec.ofChange sieveNamesWrong)

/-- 'millhandlaw13.SieveMakes': WHATEVER THE INPUT: true; the input reads as it did. -/
def sieveMakesSpec : ChangeSpec := { name := "sieveMakes", fn := fun _ => fun
  | [d1, d2, d3] => { results := [.lit (.bool true)], args := [d1, d2, d3] }
  | _ => none }
def sieveMakesRow : OpenClaim := { program := "ytmnkdagfgfcnjaa", sum := "c2fc620a83395d14782a52c1507fdaebefa37aed9748f6f997e98ee7afec910b", func := "millhand/millhandlaw13.SieveMakes", spec := "sieveMakes", unfollowed := true, recurses := true, apart := false }
def SieveMakesSaid : Prop := sieveMakesRow.holds Try.pinned (OpenSpec.ofChange sieveMakesSpec)

/-- ITS FALSE NEIGHBOUR: 'it returns false'. Refute it at one input. -/
def sieveMakesWrong : ChangeSpec := { name := "sieveMakes", fn := fun _ => fun
  | [d1, d2, d3] => { results := [.lit (.bool false)], args := [d1, d2, d3] }
  | _ => none }
def SieveMakesWrongFalsely : Prop := sieveMakesRow.holds Try.pinned (OpenSpec.ofChange sieveMakesWrong)

/-- 'millhandlaw13.SieveAll': WHATEVER THE INPUT: true; the input reads as it did. -/
def sieveAllSpec : ChangeSpec := { name := "sieveAll", fn := fun _ => fun
  | [d] => { results := [.lit (.bool true)], args := [d] }
  | _ => none }
def sieveAllRow : OpenClaim := { program := "ytmnkdagfgfcnjaa", sum := "c2fc620a83395d14782a52c1507fdaebefa37aed9748f6f997e98ee7afec910b", func := "millhand/millhandlaw13.SieveAll", spec := "sieveAll", unfollowed := true, recurses := true, apart := false }
def SieveAllSaid : Prop := sieveAllRow.holds Try.pinned (OpenSpec.ofChange sieveAllSpec)

/-- ITS FALSE NEIGHBOUR: 'it returns false'. Refute it at one input. -/
def sieveAllWrong : ChangeSpec := { name := "sieveAll", fn := fun _ => fun
  | [d] => { results := [.lit (.bool false)], args := [d] }
  | _ => none }
def SieveAllWrongFalsely : Prop := sieveAllRow.holds Try.pinned (OpenSpec.ofChange sieveAllWrong)

/-- 'millhandlaw13.SieveOrder': WHATEVER THE INPUT: true; the input reads as it did. -/
def sieveOrderSpec : ChangeSpec := { name := "sieveOrder", fn := fun _ => fun
  | [d1, d2, d3] => { results := [.lit (.bool true)], args := [d1, d2, d3] }
  | _ => none }
def sieveOrderRow : OpenClaim := { program := "ytmnkdagfgfcnjaa", sum := "c2fc620a83395d14782a52c1507fdaebefa37aed9748f6f997e98ee7afec910b", func := "millhand/millhandlaw13.SieveOrder", spec := "sieveOrder", unfollowed := true, recurses := true, apart := false }
def SieveOrderSaid : Prop := sieveOrderRow.holds Try.pinned (OpenSpec.ofChange sieveOrderSpec)

/-- ITS FALSE NEIGHBOUR: 'it returns false'. Refute it at one input. -/
def sieveOrderWrong : ChangeSpec := { name := "sieveOrder", fn := fun _ => fun
  | [d1, d2, d3] => { results := [.lit (.bool false)], args := [d1, d2, d3] }
  | _ => none }
def SieveOrderWrongFalsely : Prop := sieveOrderRow.holds Try.pinned (OpenSpec.ofChange sieveOrderWrong)

/- THE SECOND FORM. 'bulk': how many values and letters a reading holds, each counted each time it is reached (what is shared counts as often as it is met; a slice's spare places count too). A statement '..UptoSaid' is the law's where the arguments, and the package variables that the reading takes, are together of bulk at most 1048576: NARROWER than '..Said'. Prove '..Said' where nothing that the law and all that it calls make is longer than what came in: it says more and counts as full. Else prove '..UptoSaid'. A law counts once. -/
mutual
def uptoBulk {H : Type} : DataW H → Nat
  | .lit (.string bytes) => bytes.length + 1
  | .lit _ => 1
  | .nil => 1
  | .ptr d => uptoBulk d + 1
  | .slice elems spare => uptoBulkAll elems + uptoBulkAll spare + 1
  | .agg parts => uptoBulkAll parts + 1
  | .iface _ d => uptoBulk d + 1
  | .map entries => uptoBulkEntries entries + 1
  | .held _ => 1
def uptoBulkAll {H : Type} : List (DataW H) → Nat
  | [] => 0
  | d :: r => uptoBulk d + uptoBulkAll r
def uptoBulkEntries {H : Type} : List (Lit × DataW H) → Nat
  | [] => 0
  | x :: r => uptoBulkEntry x + uptoBulkEntries r
def uptoBulkEntry {H : Type} : Lit × DataW H → Nat
  | (.string bytes, d) => bytes.length + uptoBulk d + 1
  | (_, d) => uptoBulk d + 1
 end
def uptoSmall : (H : Type) → List (DataW H) → Bool := fun _ ds => decide (uptoBulkAll ds ≤ 1048576)
def OpenSpec.upto (s : _root_.Go.ChangeSpec) : _root_.Go.OpenSpec := { _root_.Go.OpenSpec.ofChange s with cond := some uptoSmall }

/-- 'millhandlaw13.SieveNames', WHERE WHAT IT READS IS OF BULK AT MOST 1048576: true; the input reads as it did. -/
def sieveNamesUptoRow : OpenClaim := { program := "ytmnkdagfgfcnjaa", sum := "c2fc620a83395d14782a52c1507fdaebefa37aed9748f6f997e98ee7afec910b", func := "millhand/millhandlaw13.SieveNames", spec := "sieveNames", unfollowed := true, recurses := true, apart := false, narrowed := true }
def SieveNamesUptoSaid : Prop := sieveNamesUptoRow.holds Try.pinned (OpenSpec.upto sieveNamesSpec)

/-- 'millhandlaw13.SieveMakes', WHERE WHAT IT READS IS OF BULK AT MOST 1048576: true; the input reads as it did. -/
def sieveMakesUptoRow : OpenClaim := { program := "ytmnkdagfgfcnjaa", sum := "c2fc620a83395d14782a52c1507fdaebefa37aed9748f6f997e98ee7afec910b", func := "millhand/millhandlaw13.SieveMakes", spec := "sieveMakes", unfollowed := true, recurses := true, apart := false, narrowed := true }
def SieveMakesUptoSaid : Prop := sieveMakesUptoRow.holds Try.pinned (OpenSpec.upto sieveMakesSpec)

/-- 'millhandlaw13.SieveAll', WHERE WHAT IT READS IS OF BULK AT MOST 1048576: true; the input reads as it did. -/
def sieveAllUptoRow : OpenClaim := { program := "ytmnkdagfgfcnjaa", sum := "c2fc620a83395d14782a52c1507fdaebefa37aed9748f6f997e98ee7afec910b", func := "millhand/millhandlaw13.SieveAll", spec := "sieveAll", unfollowed := true, recurses := true, apart := false, narrowed := true }
def SieveAllUptoSaid : Prop := sieveAllUptoRow.holds Try.pinned (OpenSpec.upto sieveAllSpec)

/-- 'millhandlaw13.SieveOrder', WHERE WHAT IT READS IS OF BULK AT MOST 1048576: true; the input reads as it did. -/
def sieveOrderUptoRow : OpenClaim := { program := "ytmnkdagfgfcnjaa", sum := "c2fc620a83395d14782a52c1507fdaebefa37aed9748f6f997e98ee7afec910b", func := "millhand/millhandlaw13.SieveOrder", spec := "sieveOrder", unfollowed := true, recurses := true, apart := false, narrowed := true }
def SieveOrderUptoSaid : Prop := sieveOrderUptoRow.holds Try.pinned (OpenSpec.upto sieveOrderSpec)

end Rows
end Go.Proofs.Ytmnkdagfgfcnjaa

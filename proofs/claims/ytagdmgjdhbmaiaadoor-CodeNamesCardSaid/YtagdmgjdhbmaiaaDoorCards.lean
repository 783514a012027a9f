/-
  DERIVED. GIVEN WITH THE SEED: THE CARDS: each row of YtagdmgjdhbmaiaaDoorRows.lean that lists a variable, with what it lists TIED to the program's text (the seventh form; the later family's looks); each row that meets fmt, with fmt's text TOLD by the authors' own Lean function (tested against real Go, not proved from fmt's source: count such statements apart). THE CARD IS WHAT COUNTS. Prove the row's statement (the work); the ties are given (YtagdmgjdhbmaiaaDoorTie.lean); close each card by the builder's one call (the guide's Derived/Test/ToyasCard.lean, 'card_holds'). Laid BY PROGRAM, IN A SANDBOX (cutbox-door.mjs). By AI agents, Wed Nov 11 2026. No macro, syntax, notation, axiom, sorry.
-/
import Derived.Test.YtagdmgjdhbmaiaaDoorRows
import GoSem.ClaimSeven
namespace Go.Proofs.YtagdmgjdhbmaiaaDoor
namespace Rows

/-- THE TIED CARD OF 'millhandlaw01.CodeOrder'. -/
def codeOrderCard : Claim7 := { stood := { row := codeOrderRow, standIns := [], harness := (true, "25a33092b9ee5790e8407231b5007f7167e938a45bd5769b0ffedfebd866569b"), looks := false }, kinds := [], alts := [], laidByText := true, laidKinds := [.data, .pinned], laidTests := true, laidLooks := .later }
def CodeOrderCardSaid : Prop := Claim7.holds Tryd.pinned (.plain (OpenSpec.ofChange codeOrderSpec)) codeOrderCard

/-- THE TIED CARD OF 'millhandlaw01.CodeRead'. -/
def codeReadCard : Claim7 := { stood := { row := codeReadRow, standIns := [], harness := (true, "25a33092b9ee5790e8407231b5007f7167e938a45bd5769b0ffedfebd866569b"), looks := false }, kinds := [], alts := [], laidByText := true, laidKinds := [.data, .pinned], laidTests := true, laidLooks := .later }
def CodeReadCardSaid : Prop := Claim7.holds Tryd.pinned (.plain (OpenSpec.ofChange codeReadSpec)) codeReadCard

/-- THE TIED CARD OF 'millhandlaw01.CodeKeys'. -/
def codeKeysCard : Claim7 := { stood := { row := codeKeysRow, standIns := [], harness := (true, "25a33092b9ee5790e8407231b5007f7167e938a45bd5769b0ffedfebd866569b"), looks := false }, kinds := [], alts := [], laidByText := true, laidKinds := [.data, .pinned], laidTests := true, laidLooks := .later }
def CodeKeysCardSaid : Prop := Claim7.holds Tryd.pinned (.plain (OpenSpec.ofChange codeKeysSpec)) codeKeysCard

/-- THE TIED CARD OF 'millhandlaw01.CodeAbove'. -/
def codeAboveCard : Claim7 := { stood := { row := codeAboveRow, standIns := [], harness := (true, "25a33092b9ee5790e8407231b5007f7167e938a45bd5769b0ffedfebd866569b"), looks := false }, kinds := [], alts := [], laidByText := true, laidKinds := [.data, .pinned], laidTests := true, laidLooks := .later }
def CodeAboveCardSaid : Prop := Claim7.holds Tryd.pinned (.plain (OpenSpec.ofChange codeAboveSpec)) codeAboveCard

/-- THE TIED CARD OF 'millhandlaw01.CodeBack'. -/
def codeBackCard : Claim7 := { stood := { row := codeBackRow, standIns := [], harness := (true, "25a33092b9ee5790e8407231b5007f7167e938a45bd5769b0ffedfebd866569b"), looks := false }, kinds := [], alts := [], laidByText := true, laidKinds := [.data, .pinned], laidTests := true, laidLooks := .later }
def CodeBackCardSaid : Prop := Claim7.holds Tryd.pinned (.plain (OpenSpec.ofChange codeBackSpec)) codeBackCard

/-- THE TIED CARD OF 'millhandlaw01.CodeNames'. -/
def codeNamesCard : Claim7 := { stood := { row := codeNamesRow, standIns := [], harness := (true, "25a33092b9ee5790e8407231b5007f7167e938a45bd5769b0ffedfebd866569b"), looks := false }, kinds := [], alts := [], laidByText := true, laidKinds := [.data, .pinned], laidTests := true, laidLooks := .later }
def CodeNamesCardSaid : Prop := Claim7.holds Tryd.pinned (.plain (OpenSpec.ofChange codeNamesSpec)) codeNamesCard

/-- THE TIED CARD OF 'millhandlaw22.KeysOrder'. -/
def keysOrderCard : Claim7 := { stood := { row := keysOrderRow, standIns := [], harness := (true, "25a33092b9ee5790e8407231b5007f7167e938a45bd5769b0ffedfebd866569b"), looks := false }, kinds := [], alts := [], laidByText := true, laidKinds := [.data, .pinned], laidTests := true, laidLooks := .later }
def KeysOrderCardSaid : Prop := Claim7.holds Tryd.pinned (.plain (OpenSpec.ofChange keysOrderSpec)) keysOrderCard

/-- THE TIED CARD OF 'millhandlaw22.KeysOnly'. -/
def keysOnlyCard : Claim7 := { stood := { row := keysOnlyRow, standIns := [], harness := (true, "25a33092b9ee5790e8407231b5007f7167e938a45bd5769b0ffedfebd866569b"), looks := false }, kinds := [], alts := [], laidByText := true, laidKinds := [.data, .pinned], laidTests := true, laidLooks := .later }
def KeysOnlyCardSaid : Prop := Claim7.holds Tryd.pinned (.plain (OpenSpec.ofChange keysOnlySpec)) keysOnlyCard

/-- THE TIED CARD OF 'millhandlaw22.KeysTells'. -/
def keysTellsCard : Claim7 := { stood := { row := keysTellsRow, standIns := [], harness := (true, "25a33092b9ee5790e8407231b5007f7167e938a45bd5769b0ffedfebd866569b"), looks := false }, kinds := [], alts := [], laidByText := true, laidKinds := [.data, .pinned], laidTests := true, laidLooks := .later }
def KeysTellsCardSaid : Prop := Claim7.holds Tryd.pinned (.plain (OpenSpec.ofChange keysTellsSpec)) keysTellsCard

/-- THE TIED CARD OF 'millhandlaw22.KeysBack'. -/
def keysBackCard : Claim7 := { stood := { row := keysBackRow, standIns := [], harness := (true, "25a33092b9ee5790e8407231b5007f7167e938a45bd5769b0ffedfebd866569b"), looks := false }, kinds := [], alts := [], laidByText := true, laidKinds := [.data, .pinned], laidTests := true, laidLooks := .later }
def KeysBackCardSaid : Prop := Claim7.holds Tryd.pinned (.plain (OpenSpec.ofChange keysBackSpec)) keysBackCard

/-- THE SECOND FORM's CARD OF 'millhandlaw01.CodeOrder'. -/
def codeOrderUptoCard : Claim7 := { stood := { row := codeOrderUptoRow, standIns := [], harness := (true, "25a33092b9ee5790e8407231b5007f7167e938a45bd5769b0ffedfebd866569b"), looks := false }, kinds := [], alts := [], laidByText := true, laidKinds := [.data, .pinned], laidTests := true, laidLooks := .later }
def CodeOrderUptoCardSaid : Prop := Claim7.holds Tryd.pinned (.plain (OpenSpec.upto codeOrderSpec)) codeOrderUptoCard

/-- THE SECOND FORM's CARD OF 'millhandlaw01.CodeRead'. -/
def codeReadUptoCard : Claim7 := { stood := { row := codeReadUptoRow, standIns := [], harness := (true, "25a33092b9ee5790e8407231b5007f7167e938a45bd5769b0ffedfebd866569b"), looks := false }, kinds := [], alts := [], laidByText := true, laidKinds := [.data, .pinned], laidTests := true, laidLooks := .later }
def CodeReadUptoCardSaid : Prop := Claim7.holds Tryd.pinned (.plain (OpenSpec.upto codeReadSpec)) codeReadUptoCard

/-- THE SECOND FORM's CARD OF 'millhandlaw01.CodeKeys'. -/
def codeKeysUptoCard : Claim7 := { stood := { row := codeKeysUptoRow, standIns := [], harness := (true, "25a33092b9ee5790e8407231b5007f7167e938a45bd5769b0ffedfebd866569b"), looks := false }, kinds := [], alts := [], laidByText := true, laidKinds := [.data, .pinned], laidTests := true, laidLooks := .later }
def CodeKeysUptoCardSaid : Prop := Claim7.holds Tryd.pinned (.plain (OpenSpec.upto codeKeysSpec)) codeKeysUptoCard

/-- THE SECOND FORM's CARD OF 'millhandlaw01.CodeAbove'. -/
def codeAboveUptoCard : Claim7 := { stood := { row := codeAboveUptoRow, standIns := [], harness := (true, "25a33092b9ee5790e8407231b5007f7167e938a45bd5769b0ffedfebd866569b"), looks := false }, kinds := [], alts := [], laidByText := true, laidKinds := [.data, .pinned], laidTests := true, laidLooks := .later }
def CodeAboveUptoCardSaid : Prop := Claim7.holds Tryd.pinned (.plain (OpenSpec.upto codeAboveSpec)) codeAboveUptoCard

/-- THE SECOND FORM's CARD OF 'millhandlaw01.CodeBack'. -/
def codeBackUptoCard : Claim7 := { stood := { row := codeBackUptoRow, standIns := [], harness := (true, "25a33092b9ee5790e8407231b5007f7167e938a45bd5769b0ffedfebd866569b"), looks := false }, kinds := [], alts := [], laidByText := true, laidKinds := [.data, .pinned], laidTests := true, laidLooks := .later }
def CodeBackUptoCardSaid : Prop := Claim7.holds Tryd.pinned (.plain (OpenSpec.upto codeBackSpec)) codeBackUptoCard

/-- THE SECOND FORM's CARD OF 'millhandlaw01.CodeNames'. -/
def codeNamesUptoCard : Claim7 := { stood := { row := codeNamesUptoRow, standIns := [], harness := (true, "25a33092b9ee5790e8407231b5007f7167e938a45bd5769b0ffedfebd866569b"), looks := false }, kinds := [], alts := [], laidByText := true, laidKinds := [.data, .pinned], laidTests := true, laidLooks := .later }
def CodeNamesUptoCardSaid : Prop := Claim7.holds Tryd.pinned (.plain (OpenSpec.upto codeNamesSpec)) codeNamesUptoCard

/-- THE SECOND FORM's CARD OF 'millhandlaw22.KeysOrder'. -/
def keysOrderUptoCard : Claim7 := { stood := { row := keysOrderUptoRow, standIns := [], harness := (true, "25a33092b9ee5790e8407231b5007f7167e938a45bd5769b0ffedfebd866569b"), looks := false }, kinds := [], alts := [], laidByText := true, laidKinds := [.data, .pinned], laidTests := true, laidLooks := .later }
def KeysOrderUptoCardSaid : Prop := Claim7.holds Tryd.pinned (.plain (OpenSpec.upto keysOrderSpec)) keysOrderUptoCard

/-- THE SECOND FORM's CARD OF 'millhandlaw22.KeysOnly'. -/
def keysOnlyUptoCard : Claim7 := { stood := { row := keysOnlyUptoRow, standIns := [], harness := (true, "25a33092b9ee5790e8407231b5007f7167e938a45bd5769b0ffedfebd866569b"), looks := false }, kinds := [], alts := [], laidByText := true, laidKinds := [.data, .pinned], laidTests := true, laidLooks := .later }
def KeysOnlyUptoCardSaid : Prop := Claim7.holds Tryd.pinned (.plain (OpenSpec.upto keysOnlySpec)) keysOnlyUptoCard

/-- THE SECOND FORM's CARD OF 'millhandlaw22.KeysTells'. -/
def keysTellsUptoCard : Claim7 := { stood := { row := keysTellsUptoRow, standIns := [], harness := (true, "25a33092b9ee5790e8407231b5007f7167e938a45bd5769b0ffedfebd866569b"), looks := false }, kinds := [], alts := [], laidByText := true, laidKinds := [.data, .pinned], laidTests := true, laidLooks := .later }
def KeysTellsUptoCardSaid : Prop := Claim7.holds Tryd.pinned (.plain (OpenSpec.upto keysTellsSpec)) keysTellsUptoCard

/-- THE SECOND FORM's CARD OF 'millhandlaw22.KeysBack'. -/
def keysBackUptoCard : Claim7 := { stood := { row := keysBackUptoRow, standIns := [], harness := (true, "25a33092b9ee5790e8407231b5007f7167e938a45bd5769b0ffedfebd866569b"), looks := false }, kinds := [], alts := [], laidByText := true, laidKinds := [.data, .pinned], laidTests := true, laidLooks := .later }
def KeysBackUptoCardSaid : Prop := Claim7.holds Tryd.pinned (.plain (OpenSpec.upto keysBackSpec)) keysBackUptoCard
end Rows
end Go.Proofs.YtagdmgjdhbmaiaaDoor

/-
  DERIVED. GIVEN WITH THE SEED: THE CARDS: each row of YtkjnijddbiconaaDoorRows.lean that lists a variable, with what it lists TIED to the program's text (the seventh form; the later family's looks); each row that meets fmt, with fmt's text TOLD by the authors' own Lean function (tested against real Go, not proved from fmt's source: count such statements apart). THE CARD IS WHAT COUNTS. Prove the row's statement (the work); the ties are given (YtkjnijddbiconaaDoorTie.lean); close each card by the builder's one call (the guide's Derived/Test/ToyasCard.lean, 'card_holds'). Laid BY PROGRAM, IN A SANDBOX (cutbox-door.mjs). By AI agents, Wed Nov 11 2026. No macro, syntax, notation, axiom, sorry.
-/
import Derived.Test.YtkjnijddbiconaaDoorRows
import GoSem.ClaimSeven
namespace Go.Proofs.YtkjnijddbiconaaDoor
namespace Rows

/-- THE TIED CARD OF 'laws.FnSum'. -/
def fnSumCard : Claim7 := { stood := { row := fnSumRow, standIns := [], harness := (true, "aa9320ed79a2ded371067b009930042670d8f7db50d005a98a3972c71de6a50c"), looks := true }, kinds := [], alts := [], laidByText := true, laidKinds := [.data, .data, .data], laidTests := true, laidLooks := .later }
def FnSumCardSaid : Prop := Claim7.holds Tryd.pinned (.plain (OpenSpec.ofChange fnSumSpec)) fnSumCard

/-- THE TIED CARD OF 'laws.FnBookTexts'. -/
def fnBookTextsCard : Claim7 := { stood := { row := fnBookTextsRow, standIns := [], harness := (true, "aa9320ed79a2ded371067b009930042670d8f7db50d005a98a3972c71de6a50c"), looks := true }, kinds := [], alts := [], laidByText := true, laidKinds := [.data, .pinned], laidTests := true, laidLooks := .later }
def FnBookTextsCardSaid : Prop := Claim7.holds Tryd.pinned (.plain (OpenSpec.ofChange fnBookTextsSpec)) fnBookTextsCard

/-- THE TIED CARD OF 'laws.FnDdtParts'. -/
def fnDdtPartsCard : Claim7 := { stood := { row := fnDdtPartsRow, standIns := [], harness := (true, "aa9320ed79a2ded371067b009930042670d8f7db50d005a98a3972c71de6a50c"), looks := true }, kinds := [], alts := [], laidByText := true, laidKinds := [.data, .data, .data, .data, .sentinel, .sentinel, .pinned], laidTests := true, laidLooks := .later }
def FnDdtPartsCardSaid : Prop := Claim7.holds Tryd.pinned (.plain (OpenSpec.ofChange fnDdtPartsSpec)) fnDdtPartsCard

/-- THE SECOND FORM's CARD OF 'laws.FnSum'. -/
def fnSumUptoCard : Claim7 := { stood := { row := fnSumUptoRow, standIns := [], harness := (true, "aa9320ed79a2ded371067b009930042670d8f7db50d005a98a3972c71de6a50c"), looks := true }, kinds := [], alts := [], laidByText := true, laidKinds := [.data, .data, .data], laidTests := true, laidLooks := .later }
def FnSumUptoCardSaid : Prop := Claim7.holds Tryd.pinned (.plain (OpenSpec.upto fnSumSpec)) fnSumUptoCard

/-- THE SECOND FORM's CARD OF 'laws.FnBookTexts'. -/
def fnBookTextsUptoCard : Claim7 := { stood := { row := fnBookTextsUptoRow, standIns := [], harness := (true, "aa9320ed79a2ded371067b009930042670d8f7db50d005a98a3972c71de6a50c"), looks := true }, kinds := [], alts := [], laidByText := true, laidKinds := [.data, .pinned], laidTests := true, laidLooks := .later }
def FnBookTextsUptoCardSaid : Prop := Claim7.holds Tryd.pinned (.plain (OpenSpec.upto fnBookTextsSpec)) fnBookTextsUptoCard

/-- THE SECOND FORM's CARD OF 'laws.FnDdtParts'. -/
def fnDdtPartsUptoCard : Claim7 := { stood := { row := fnDdtPartsUptoRow, standIns := [], harness := (true, "aa9320ed79a2ded371067b009930042670d8f7db50d005a98a3972c71de6a50c"), looks := true }, kinds := [], alts := [], laidByText := true, laidKinds := [.data, .data, .data, .data, .sentinel, .sentinel, .pinned], laidTests := true, laidLooks := .later }
def FnDdtPartsUptoCardSaid : Prop := Claim7.holds Tryd.pinned (.plain (OpenSpec.upto fnDdtPartsSpec)) fnDdtPartsUptoCard
end Rows
end Go.Proofs.YtkjnijddbiconaaDoor

/-
  DERIVED. GIVEN WITH THE SEED: THE CARDS: each row of YtljilcingbohkabDoorRows.lean that lists a variable, with what it lists TIED to the program's text (the seventh form; the later family's looks); each row that meets fmt, with fmt's text TOLD by the authors' own Lean function (tested against real Go, not proved from fmt's source: count such statements apart). THE CARD IS WHAT COUNTS. Prove the row's statement (the work); the ties are given (YtljilcingbohkabDoorTie.lean); close each card by the builder's one call (the guide's Derived/Test/ToyasCard.lean, 'card_holds'). Laid BY PROGRAM, IN A SANDBOX (cutbox-door.mjs). By AI agents, Wed Nov 11 2026. No macro, syntax, notation, axiom, sorry.
-/
import Derived.Test.YtljilcingbohkabDoorRows
import GoSem.ClaimSeven
namespace Go.Proofs.YtljilcingbohkabDoor
namespace Rows

/-- THE TIED CARD OF 'laws.FnExactCoreOk'. -/
def fnExactCoreOkCard : Claim7 := { stood := { row := fnExactCoreOkRow, standIns := [], harness := (true, "ae25889ec40ae909982d91099ae56cddd7161d885da326a74098ed0dedb60524"), looks := true }, kinds := [], alts := [], laidByText := true, laidKinds := [.data, .pinned], laidTests := true, laidLooks := .later }
def FnExactCoreOkCardSaid : Prop := Claim7.holds Tryd.pinned (.plain (OpenSpec.ofChange fnExactCoreOkSpec)) fnExactCoreOkCard

/-- THE TIED CARD OF 'laws.FnExactCommitNeeds'. -/
def fnExactCommitNeedsCard : Claim7 := { stood := { row := fnExactCommitNeedsRow, standIns := [], harness := (true, "ae25889ec40ae909982d91099ae56cddd7161d885da326a74098ed0dedb60524"), looks := true }, kinds := [], alts := [], laidByText := true, laidKinds := [.data, .pinned], laidTests := true, laidLooks := .later }
def FnExactCommitNeedsCardSaid : Prop := Claim7.holds Tryd.pinned (.plain (OpenSpec.ofChange fnExactCommitNeedsSpec)) fnExactCommitNeedsCard

/-- THE TIED CARD OF 'laws.FnExactPtrRead'. -/
def fnExactPtrReadCard : Claim7 := { stood := { row := fnExactPtrReadRow, standIns := [], harness := (true, "ae25889ec40ae909982d91099ae56cddd7161d885da326a74098ed0dedb60524"), looks := true }, kinds := [], alts := [], laidByText := true, laidKinds := [.data, .data, .data, .data, .sentinel, .sentinel, .pinned], laidTests := true, laidLooks := .later }
def FnExactPtrReadCardSaid : Prop := Claim7.holds Tryd.pinned (.plain (OpenSpec.ofChange fnExactPtrReadSpec)) fnExactPtrReadCard

/-- THE TIED CARD OF 'laws.FnExactCoreRoot'. -/
def fnExactCoreRootCard : Claim7 := { stood := { row := fnExactCoreRootRow, standIns := [], harness := (true, "ae25889ec40ae909982d91099ae56cddd7161d885da326a74098ed0dedb60524"), looks := true }, kinds := [], alts := [], laidByText := true, laidKinds := [.data, .data, .data, .data, .pinned], laidTests := true, laidLooks := .later }
def FnExactCoreRootCardSaid : Prop := Claim7.holds Tryd.pinned (.plain (OpenSpec.ofChange fnExactCoreRootSpec)) fnExactCoreRootCard

/-- THE TIED CARD OF 'laws.FnExactBookTexts'. -/
def fnExactBookTextsCard : Claim7 := { stood := { row := fnExactBookTextsRow, standIns := [], harness := (true, "ae25889ec40ae909982d91099ae56cddd7161d885da326a74098ed0dedb60524"), looks := true }, kinds := [], alts := [], laidByText := true, laidKinds := [.data, .pinned], laidTests := true, laidLooks := .later }
def FnExactBookTextsCardSaid : Prop := Claim7.holds Tryd.pinned (.plain (OpenSpec.ofChange fnExactBookTextsSpec)) fnExactBookTextsCard

/-- THE TIED CARD OF 'laws.FnExactCoreMapRead'. -/
def fnExactCoreMapReadCard : Claim7 := { stood := { row := fnExactCoreMapReadRow, standIns := [], harness := (true, "ae25889ec40ae909982d91099ae56cddd7161d885da326a74098ed0dedb60524"), looks := true }, kinds := [], alts := [], laidByText := true, laidKinds := [.data, .data, .data, .data, .sentinel, .sentinel, .pinned], laidTests := true, laidLooks := .later }
def FnExactCoreMapReadCardSaid : Prop := Claim7.holds Tryd.pinned (.plain (OpenSpec.ofChange fnExactCoreMapReadSpec)) fnExactCoreMapReadCard

/-- THE TIED CARD OF 'laws.FnExactDdtRead'. -/
def fnExactDdtReadCard : Claim7 := { stood := { row := fnExactDdtReadRow, standIns := [], harness := (true, "ae25889ec40ae909982d91099ae56cddd7161d885da326a74098ed0dedb60524"), looks := true }, kinds := [], alts := [], laidByText := true, laidKinds := [.data, .data, .data, .data, .sentinel, .sentinel, .pinned], laidTests := true, laidLooks := .later }
def FnExactDdtReadCardSaid : Prop := Claim7.holds Tryd.pinned (.plain (OpenSpec.ofChange fnExactDdtReadSpec)) fnExactDdtReadCard

/-- THE TIED CARD OF 'laws.FnExactCoreUberRead'. -/
def fnExactCoreUberReadCard : Claim7 := { stood := { row := fnExactCoreUberReadRow, standIns := [], harness := (true, "ae25889ec40ae909982d91099ae56cddd7161d885da326a74098ed0dedb60524"), looks := true }, kinds := [], alts := [], laidByText := true, laidKinds := [.data, .data, .data, .data, .sentinel, .sentinel, .pinned], laidTests := true, laidLooks := .later }
def FnExactCoreUberReadCardSaid : Prop := Claim7.holds Tryd.pinned (.plain (OpenSpec.ofChange fnExactCoreUberReadSpec)) fnExactCoreUberReadCard

/-- THE TIED CARD OF 'laws.FnExactLogRead'. -/
def fnExactLogReadCard : Claim7 := { stood := { row := fnExactLogReadRow, standIns := [], harness := (true, "ae25889ec40ae909982d91099ae56cddd7161d885da326a74098ed0dedb60524"), looks := true }, kinds := [], alts := [], laidByText := true, laidKinds := [.data, .data, .data, .data, .sentinel, .sentinel, .pinned], laidTests := true, laidLooks := .later }
def FnExactLogReadCardSaid : Prop := Claim7.holds Tryd.pinned (.plain (OpenSpec.ofChange fnExactLogReadSpec)) fnExactLogReadCard

/-- THE SECOND FORM's CARD OF 'laws.FnExactCoreOk'. -/
def fnExactCoreOkUptoCard : Claim7 := { stood := { row := fnExactCoreOkUptoRow, standIns := [], harness := (true, "ae25889ec40ae909982d91099ae56cddd7161d885da326a74098ed0dedb60524"), looks := true }, kinds := [], alts := [], laidByText := true, laidKinds := [.data, .pinned], laidTests := true, laidLooks := .later }
def FnExactCoreOkUptoCardSaid : Prop := Claim7.holds Tryd.pinned (.plain (OpenSpec.upto fnExactCoreOkSpec)) fnExactCoreOkUptoCard

/-- THE SECOND FORM's CARD OF 'laws.FnExactCommitNeeds'. -/
def fnExactCommitNeedsUptoCard : Claim7 := { stood := { row := fnExactCommitNeedsUptoRow, standIns := [], harness := (true, "ae25889ec40ae909982d91099ae56cddd7161d885da326a74098ed0dedb60524"), looks := true }, kinds := [], alts := [], laidByText := true, laidKinds := [.data, .pinned], laidTests := true, laidLooks := .later }
def FnExactCommitNeedsUptoCardSaid : Prop := Claim7.holds Tryd.pinned (.plain (OpenSpec.upto fnExactCommitNeedsSpec)) fnExactCommitNeedsUptoCard

/-- THE SECOND FORM's CARD OF 'laws.FnExactPtrRead'. -/
def fnExactPtrReadUptoCard : Claim7 := { stood := { row := fnExactPtrReadUptoRow, standIns := [], harness := (true, "ae25889ec40ae909982d91099ae56cddd7161d885da326a74098ed0dedb60524"), looks := true }, kinds := [], alts := [], laidByText := true, laidKinds := [.data, .data, .data, .data, .sentinel, .sentinel, .pinned], laidTests := true, laidLooks := .later }
def FnExactPtrReadUptoCardSaid : Prop := Claim7.holds Tryd.pinned (.plain (OpenSpec.upto fnExactPtrReadSpec)) fnExactPtrReadUptoCard

/-- THE SECOND FORM's CARD OF 'laws.FnExactCoreRoot'. -/
def fnExactCoreRootUptoCard : Claim7 := { stood := { row := fnExactCoreRootUptoRow, standIns := [], harness := (true, "ae25889ec40ae909982d91099ae56cddd7161d885da326a74098ed0dedb60524"), looks := true }, kinds := [], alts := [], laidByText := true, laidKinds := [.data, .data, .data, .data, .pinned], laidTests := true, laidLooks := .later }
def FnExactCoreRootUptoCardSaid : Prop := Claim7.holds Tryd.pinned (.plain (OpenSpec.upto fnExactCoreRootSpec)) fnExactCoreRootUptoCard

/-- THE SECOND FORM's CARD OF 'laws.FnExactBookTexts'. -/
def fnExactBookTextsUptoCard : Claim7 := { stood := { row := fnExactBookTextsUptoRow, standIns := [], harness := (true, "ae25889ec40ae909982d91099ae56cddd7161d885da326a74098ed0dedb60524"), looks := true }, kinds := [], alts := [], laidByText := true, laidKinds := [.data, .pinned], laidTests := true, laidLooks := .later }
def FnExactBookTextsUptoCardSaid : Prop := Claim7.holds Tryd.pinned (.plain (OpenSpec.upto fnExactBookTextsSpec)) fnExactBookTextsUptoCard

/-- THE SECOND FORM's CARD OF 'laws.FnExactCoreMapRead'. -/
def fnExactCoreMapReadUptoCard : Claim7 := { stood := { row := fnExactCoreMapReadUptoRow, standIns := [], harness := (true, "ae25889ec40ae909982d91099ae56cddd7161d885da326a74098ed0dedb60524"), looks := true }, kinds := [], alts := [], laidByText := true, laidKinds := [.data, .data, .data, .data, .sentinel, .sentinel, .pinned], laidTests := true, laidLooks := .later }
def FnExactCoreMapReadUptoCardSaid : Prop := Claim7.holds Tryd.pinned (.plain (OpenSpec.upto fnExactCoreMapReadSpec)) fnExactCoreMapReadUptoCard

/-- THE SECOND FORM's CARD OF 'laws.FnExactDdtRead'. -/
def fnExactDdtReadUptoCard : Claim7 := { stood := { row := fnExactDdtReadUptoRow, standIns := [], harness := (true, "ae25889ec40ae909982d91099ae56cddd7161d885da326a74098ed0dedb60524"), looks := true }, kinds := [], alts := [], laidByText := true, laidKinds := [.data, .data, .data, .data, .sentinel, .sentinel, .pinned], laidTests := true, laidLooks := .later }
def FnExactDdtReadUptoCardSaid : Prop := Claim7.holds Tryd.pinned (.plain (OpenSpec.upto fnExactDdtReadSpec)) fnExactDdtReadUptoCard

/-- THE SECOND FORM's CARD OF 'laws.FnExactCoreUberRead'. -/
def fnExactCoreUberReadUptoCard : Claim7 := { stood := { row := fnExactCoreUberReadUptoRow, standIns := [], harness := (true, "ae25889ec40ae909982d91099ae56cddd7161d885da326a74098ed0dedb60524"), looks := true }, kinds := [], alts := [], laidByText := true, laidKinds := [.data, .data, .data, .data, .sentinel, .sentinel, .pinned], laidTests := true, laidLooks := .later }
def FnExactCoreUberReadUptoCardSaid : Prop := Claim7.holds Tryd.pinned (.plain (OpenSpec.upto fnExactCoreUberReadSpec)) fnExactCoreUberReadUptoCard

/-- THE SECOND FORM's CARD OF 'laws.FnExactLogRead'. -/
def fnExactLogReadUptoCard : Claim7 := { stood := { row := fnExactLogReadUptoRow, standIns := [], harness := (true, "ae25889ec40ae909982d91099ae56cddd7161d885da326a74098ed0dedb60524"), looks := true }, kinds := [], alts := [], laidByText := true, laidKinds := [.data, .data, .data, .data, .sentinel, .sentinel, .pinned], laidTests := true, laidLooks := .later }
def FnExactLogReadUptoCardSaid : Prop := Claim7.holds Tryd.pinned (.plain (OpenSpec.upto fnExactLogReadSpec)) fnExactLogReadUptoCard
end Rows
end Go.Proofs.YtljilcingbohkabDoor

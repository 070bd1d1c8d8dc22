/-
  DERIVED. GIVEN WITH THE SEED: THE CARDS: each row of YtkjnijddbiconaaGreatDoorRows.lean that lists a variable, with what it lists TIED to the program's text (the seventh form; the later family's looks); each row that meets fmt, with fmt's text TOLD by the authors' own Lean function (tested against real Go, not proved from fmt's source: count such statements apart). THE CARD IS WHAT COUNTS. Prove the row's statement (the work); the ties are given (YtkjnijddbiconaaGreatDoorTie.lean); close each card by the builder's one call (the guide's Derived/Test/ToyasCard.lean, 'card_holds'). Laid BY PROGRAM, IN A SANDBOX (cutbox-door.mjs). By AI agents, Wed Nov 11 2026. No macro, syntax, notation, axiom, sorry.
-/
import Derived.Test.YtkjnijddbiconaaGreatDoorRows
import GoSem.ClaimSeven
namespace Go.Proofs.YtkjnijddbiconaaGreatDoor
namespace Rows

/-- THE TIED CARD OF 'laws.FnExactRoomReach'. -/
def fnExactRoomReachCard : Claim7 := { stood := { row := fnExactRoomReachRow, standIns := [], harness := (true, "9ab3e86f8e970454aa777e722d36d1763b5b05fa7dd1187f33d51644d53b969f"), looks := true }, kinds := [], alts := [], laidByText := true, laidKinds := [.data, .pinned], laidTests := true, laidLooks := .later }
def FnExactRoomReachCardSaid : Prop := Claim7.holds Tryz.pinned (.plain (OpenSpec.ofChange fnExactRoomReachSpec)) fnExactRoomReachCard

/-- THE TIED CARD OF 'laws.FnExactRoomMay'. -/
def fnExactRoomMayCard : Claim7 := { stood := { row := fnExactRoomMayRow, standIns := [], harness := (true, "9ab3e86f8e970454aa777e722d36d1763b5b05fa7dd1187f33d51644d53b969f"), looks := true }, kinds := [], alts := [], laidByText := true, laidKinds := [.data, .pinned], laidTests := true, laidLooks := .later }
def FnExactRoomMayCardSaid : Prop := Claim7.holds Tryz.pinned (.plain (OpenSpec.ofChange fnExactRoomMaySpec)) fnExactRoomMayCard

/-- THE TIED CARD OF 'laws.FnExactRoomSums'. -/
def fnExactRoomSumsCard : Claim7 := { stood := { row := fnExactRoomSumsRow, standIns := [], harness := (true, "9ab3e86f8e970454aa777e722d36d1763b5b05fa7dd1187f33d51644d53b969f"), looks := true }, kinds := [], alts := [], laidByText := true, laidKinds := [.data, .pinned], laidTests := true, laidLooks := .later }
def FnExactRoomSumsCardSaid : Prop := Claim7.holds Tryz.pinned (.plain (OpenSpec.ofChange fnExactRoomSumsSpec)) fnExactRoomSumsCard

/-- THE TIED CARD OF 'laws.FnExactRoomFree'. -/
def fnExactRoomFreeCard : Claim7 := { stood := { row := fnExactRoomFreeRow, standIns := [], harness := (true, "9ab3e86f8e970454aa777e722d36d1763b5b05fa7dd1187f33d51644d53b969f"), looks := true }, kinds := [], alts := [], laidByText := true, laidKinds := [.data, .pinned], laidTests := true, laidLooks := .later }
def FnExactRoomFreeCardSaid : Prop := Claim7.holds Tryz.pinned (.plain (OpenSpec.ofChange fnExactRoomFreeSpec)) fnExactRoomFreeCard

/-- THE TIED CARD OF 'laws.FnExactCoreBook'. -/
def fnExactCoreBookCard : Claim7 := { stood := { row := fnExactCoreBookRow, standIns := [], harness := (true, "9ab3e86f8e970454aa777e722d36d1763b5b05fa7dd1187f33d51644d53b969f"), looks := true }, kinds := [], alts := [], laidByText := true, laidKinds := [.data, .pinned], laidTests := true, laidLooks := .later }
def FnExactCoreBookCardSaid : Prop := Claim7.holds Tryz.pinned (.plain (OpenSpec.ofChange fnExactCoreBookSpec)) fnExactCoreBookCard

/-- THE TIED CARD OF 'laws.FnExactCoreRootRead'. -/
def fnExactCoreRootReadCard : Claim7 := { stood := { row := fnExactCoreRootReadRow, standIns := [], harness := (true, "9ab3e86f8e970454aa777e722d36d1763b5b05fa7dd1187f33d51644d53b969f"), looks := true }, kinds := [], alts := [], laidByText := true, laidKinds := [.data, .data, .data, .data, .sentinel, .sentinel, .pinned], laidTests := true, laidLooks := .later }
def FnExactCoreRootReadCardSaid : Prop := Claim7.holds Tryz.pinned (.plain (OpenSpec.ofChange fnExactCoreRootReadSpec)) fnExactCoreRootReadCard

/-- THE TIED CARD OF 'laws.FnRoom'. -/
def fnRoomCard : Claim7 := { stood := { row := fnRoomRow, standIns := [], harness := (true, "9ab3e86f8e970454aa777e722d36d1763b5b05fa7dd1187f33d51644d53b969f"), looks := true }, kinds := [], alts := [], laidByText := true, laidKinds := [.data, .pinned], laidTests := true, laidLooks := .later }
def FnRoomCardSaid : Prop := Claim7.holds Tryz.pinned (.plain (OpenSpec.ofChange fnRoomSpec)) fnRoomCard

/-- THE TIED CARD OF 'laws.FnDdtFind'. -/
def fnDdtFindCard : Claim7 := { stood := { row := fnDdtFindRow, standIns := [], harness := (true, "9ab3e86f8e970454aa777e722d36d1763b5b05fa7dd1187f33d51644d53b969f"), looks := true }, kinds := [], alts := [], laidByText := true, laidKinds := [.data, .data, .data, .data, .sentinel, .sentinel, .pinned], laidTests := true, laidLooks := .later }
def FnDdtFindCardSaid : Prop := Claim7.holds Tryz.pinned (.plain (OpenSpec.ofChange fnDdtFindSpec)) fnDdtFindCard

/-- THE SECOND FORM's CARD OF 'laws.FnExactRoomReach'. -/
def fnExactRoomReachUptoCard : Claim7 := { stood := { row := fnExactRoomReachUptoRow, standIns := [], harness := (true, "9ab3e86f8e970454aa777e722d36d1763b5b05fa7dd1187f33d51644d53b969f"), looks := true }, kinds := [], alts := [], laidByText := true, laidKinds := [.data, .pinned], laidTests := true, laidLooks := .later }
def FnExactRoomReachUptoCardSaid : Prop := Claim7.holds Tryz.pinned (.plain (OpenSpec.upto fnExactRoomReachSpec)) fnExactRoomReachUptoCard

/-- THE SECOND FORM's CARD OF 'laws.FnExactRoomMay'. -/
def fnExactRoomMayUptoCard : Claim7 := { stood := { row := fnExactRoomMayUptoRow, standIns := [], harness := (true, "9ab3e86f8e970454aa777e722d36d1763b5b05fa7dd1187f33d51644d53b969f"), looks := true }, kinds := [], alts := [], laidByText := true, laidKinds := [.data, .pinned], laidTests := true, laidLooks := .later }
def FnExactRoomMayUptoCardSaid : Prop := Claim7.holds Tryz.pinned (.plain (OpenSpec.upto fnExactRoomMaySpec)) fnExactRoomMayUptoCard

/-- THE SECOND FORM's CARD OF 'laws.FnExactRoomSums'. -/
def fnExactRoomSumsUptoCard : Claim7 := { stood := { row := fnExactRoomSumsUptoRow, standIns := [], harness := (true, "9ab3e86f8e970454aa777e722d36d1763b5b05fa7dd1187f33d51644d53b969f"), looks := true }, kinds := [], alts := [], laidByText := true, laidKinds := [.data, .pinned], laidTests := true, laidLooks := .later }
def FnExactRoomSumsUptoCardSaid : Prop := Claim7.holds Tryz.pinned (.plain (OpenSpec.upto fnExactRoomSumsSpec)) fnExactRoomSumsUptoCard

/-- THE SECOND FORM's CARD OF 'laws.FnExactRoomFree'. -/
def fnExactRoomFreeUptoCard : Claim7 := { stood := { row := fnExactRoomFreeUptoRow, standIns := [], harness := (true, "9ab3e86f8e970454aa777e722d36d1763b5b05fa7dd1187f33d51644d53b969f"), looks := true }, kinds := [], alts := [], laidByText := true, laidKinds := [.data, .pinned], laidTests := true, laidLooks := .later }
def FnExactRoomFreeUptoCardSaid : Prop := Claim7.holds Tryz.pinned (.plain (OpenSpec.upto fnExactRoomFreeSpec)) fnExactRoomFreeUptoCard

/-- THE SECOND FORM's CARD OF 'laws.FnExactCoreBook'. -/
def fnExactCoreBookUptoCard : Claim7 := { stood := { row := fnExactCoreBookUptoRow, standIns := [], harness := (true, "9ab3e86f8e970454aa777e722d36d1763b5b05fa7dd1187f33d51644d53b969f"), looks := true }, kinds := [], alts := [], laidByText := true, laidKinds := [.data, .pinned], laidTests := true, laidLooks := .later }
def FnExactCoreBookUptoCardSaid : Prop := Claim7.holds Tryz.pinned (.plain (OpenSpec.upto fnExactCoreBookSpec)) fnExactCoreBookUptoCard

/-- THE SECOND FORM's CARD OF 'laws.FnExactCoreRootRead'. -/
def fnExactCoreRootReadUptoCard : Claim7 := { stood := { row := fnExactCoreRootReadUptoRow, standIns := [], harness := (true, "9ab3e86f8e970454aa777e722d36d1763b5b05fa7dd1187f33d51644d53b969f"), looks := true }, kinds := [], alts := [], laidByText := true, laidKinds := [.data, .data, .data, .data, .sentinel, .sentinel, .pinned], laidTests := true, laidLooks := .later }
def FnExactCoreRootReadUptoCardSaid : Prop := Claim7.holds Tryz.pinned (.plain (OpenSpec.upto fnExactCoreRootReadSpec)) fnExactCoreRootReadUptoCard

/-- THE SECOND FORM's CARD OF 'laws.FnRoom'. -/
def fnRoomUptoCard : Claim7 := { stood := { row := fnRoomUptoRow, standIns := [], harness := (true, "9ab3e86f8e970454aa777e722d36d1763b5b05fa7dd1187f33d51644d53b969f"), looks := true }, kinds := [], alts := [], laidByText := true, laidKinds := [.data, .pinned], laidTests := true, laidLooks := .later }
def FnRoomUptoCardSaid : Prop := Claim7.holds Tryz.pinned (.plain (OpenSpec.upto fnRoomSpec)) fnRoomUptoCard

/-- THE SECOND FORM's CARD OF 'laws.FnDdtFind'. -/
def fnDdtFindUptoCard : Claim7 := { stood := { row := fnDdtFindUptoRow, standIns := [], harness := (true, "9ab3e86f8e970454aa777e722d36d1763b5b05fa7dd1187f33d51644d53b969f"), looks := true }, kinds := [], alts := [], laidByText := true, laidKinds := [.data, .data, .data, .data, .sentinel, .sentinel, .pinned], laidTests := true, laidLooks := .later }
def FnDdtFindUptoCardSaid : Prop := Claim7.holds Tryz.pinned (.plain (OpenSpec.upto fnDdtFindSpec)) fnDdtFindUptoCard
end Rows
end Go.Proofs.YtkjnijddbiconaaGreatDoor

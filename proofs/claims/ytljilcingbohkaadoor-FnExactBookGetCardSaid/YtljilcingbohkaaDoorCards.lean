/-
  DERIVED. GIVEN WITH THE SEED: THE CARDS: each row of YtljilcingbohkaaDoorRows.lean that lists a variable, with what it lists TIED to the program's text (the seventh form; the later family's looks); each row that meets fmt, with fmt's text TOLD by the authors' own Lean function (tested against real Go, not proved from fmt's source: count such statements apart). THE CARD IS WHAT COUNTS. Prove the row's statement (the work); the ties are given (YtljilcingbohkaaDoorTie.lean); close each card by the builder's one call (the guide's Derived/Test/ToyasCard.lean, 'card_holds'). Laid BY PROGRAM, IN A SANDBOX (cutbox-door.mjs). By AI agents, Wed Nov 11 2026. No macro, syntax, notation, axiom, sorry.
-/
import Derived.Test.YtljilcingbohkaaDoorRows
import GoSem.ClaimSeven
namespace Go.Proofs.YtljilcingbohkaaDoor
namespace Rows

/-- THE TIED CARD OF 'laws.FnExactSumSeal'. -/
def fnExactSumSealCard : Claim7 := { stood := { row := fnExactSumSealRow, standIns := [], harness := (true, "20b36905b73c189edc285271c151b0d95f1fb3cef1da0a831e328482d9fb5cc7"), looks := false }, kinds := [], alts := [], laidByText := true, laidKinds := [.data, .data, .data], laidTests := true, laidLooks := .later }
def FnExactSumSealCardSaid : Prop := Claim7.holds Tryd.pinned (.plain (OpenSpec.ofChange fnExactSumSealSpec)) fnExactSumSealCard

/-- THE TIED CARD OF 'laws.FnExactBookName'. -/
def fnExactBookNameCard : Claim7 := { stood := { row := fnExactBookNameRow, standIns := [], harness := (true, "20b36905b73c189edc285271c151b0d95f1fb3cef1da0a831e328482d9fb5cc7"), looks := false }, kinds := [], alts := [], laidByText := true, laidKinds := [.data, .pinned], laidTests := true, laidLooks := .later }
def FnExactBookNameCardSaid : Prop := Claim7.holds Tryd.pinned (.plain (OpenSpec.ofChange fnExactBookNameSpec)) fnExactBookNameCard

/-- THE TIED CARD OF 'laws.FnExactPtrText'. -/
def fnExactPtrTextCard : Claim7 := { stood := { row := fnExactPtrTextRow, standIns := [], harness := (true, "20b36905b73c189edc285271c151b0d95f1fb3cef1da0a831e328482d9fb5cc7"), looks := false }, kinds := [], alts := [], laidByText := true, laidKinds := [.data, .data, .data], laidTests := true, laidLooks := .later }
def FnExactPtrTextCardSaid : Prop := Claim7.holds Tryd.pinned (.plain (OpenSpec.ofChange fnExactPtrTextSpec)) fnExactPtrTextCard

/-- THE TIED CARD OF 'laws.FnExactCoreMap'. -/
def fnExactCoreMapCard : Claim7 := { stood := { row := fnExactCoreMapRow, standIns := [], harness := (true, "20b36905b73c189edc285271c151b0d95f1fb3cef1da0a831e328482d9fb5cc7"), looks := false }, kinds := [], alts := [], laidByText := true, laidKinds := [.data, .data, .data], laidTests := true, laidLooks := .later }
def FnExactCoreMapCardSaid : Prop := Claim7.holds Tryd.pinned (.plain (OpenSpec.ofChange fnExactCoreMapSpec)) fnExactCoreMapCard

/-- THE TIED CARD OF 'laws.FnExactSumOpen'. -/
def fnExactSumOpenCard : Claim7 := { stood := { row := fnExactSumOpenRow, standIns := [], harness := (true, "20b36905b73c189edc285271c151b0d95f1fb3cef1da0a831e328482d9fb5cc7"), looks := false }, kinds := [], alts := [], laidByText := true, laidKinds := [.data, .data, .data], laidTests := true, laidLooks := .later }
def FnExactSumOpenCardSaid : Prop := Claim7.holds Tryd.pinned (.plain (OpenSpec.ofChange fnExactSumOpenSpec)) fnExactSumOpenCard

/-- THE TIED CARD OF 'laws.FnExactCoreUber'. -/
def fnExactCoreUberCard : Claim7 := { stood := { row := fnExactCoreUberRow, standIns := [], harness := (true, "20b36905b73c189edc285271c151b0d95f1fb3cef1da0a831e328482d9fb5cc7"), looks := false }, kinds := [], alts := [], laidByText := true, laidKinds := [.data, .data, .data], laidTests := true, laidLooks := .later }
def FnExactCoreUberCardSaid : Prop := Claim7.holds Tryd.pinned (.plain (OpenSpec.ofChange fnExactCoreUberSpec)) fnExactCoreUberCard

/-- THE TIED CARD OF 'laws.FnExactDdtText'. -/
def fnExactDdtTextCard : Claim7 := { stood := { row := fnExactDdtTextRow, standIns := [], harness := (true, "20b36905b73c189edc285271c151b0d95f1fb3cef1da0a831e328482d9fb5cc7"), looks := false }, kinds := [], alts := [], laidByText := true, laidKinds := [.data, .data, .data], laidTests := true, laidLooks := .later }
def FnExactDdtTextCardSaid : Prop := Claim7.holds Tryd.pinned (.plain (OpenSpec.ofChange fnExactDdtTextSpec)) fnExactDdtTextCard

/-- THE TIED CARD OF 'laws.FnExactBookOk'. -/
def fnExactBookOkCard : Claim7 := { stood := { row := fnExactBookOkRow, standIns := [], harness := (true, "20b36905b73c189edc285271c151b0d95f1fb3cef1da0a831e328482d9fb5cc7"), looks := false }, kinds := [], alts := [], laidByText := true, laidKinds := [.data, .pinned], laidTests := true, laidLooks := .later }
def FnExactBookOkCardSaid : Prop := Claim7.holds Tryd.pinned (.plain (OpenSpec.ofChange fnExactBookOkSpec)) fnExactBookOkCard

/-- THE TIED CARD OF 'laws.FnExactBookGet'. -/
def fnExactBookGetCard : Claim7 := { stood := { row := fnExactBookGetRow, standIns := [], harness := (true, "20b36905b73c189edc285271c151b0d95f1fb3cef1da0a831e328482d9fb5cc7"), looks := false }, kinds := [], alts := [], laidByText := true, laidKinds := [.data, .pinned], laidTests := true, laidLooks := .later }
def FnExactBookGetCardSaid : Prop := Claim7.holds Tryd.pinned (.plain (OpenSpec.ofChange fnExactBookGetSpec)) fnExactBookGetCard

/-- THE TIED CARD OF 'laws.FnExactLogText'. -/
def fnExactLogTextCard : Claim7 := { stood := { row := fnExactLogTextRow, standIns := [], harness := (true, "20b36905b73c189edc285271c151b0d95f1fb3cef1da0a831e328482d9fb5cc7"), looks := false }, kinds := [], alts := [], laidByText := true, laidKinds := [.data, .data, .data, .data, .pinned], laidTests := true, laidLooks := .later }
def FnExactLogTextCardSaid : Prop := Claim7.holds Tryd.pinned (.plain (OpenSpec.ofChange fnExactLogTextSpec)) fnExactLogTextCard

/-- THE SECOND FORM's CARD OF 'laws.FnExactSumSeal'. -/
def fnExactSumSealUptoCard : Claim7 := { stood := { row := fnExactSumSealUptoRow, standIns := [], harness := (true, "20b36905b73c189edc285271c151b0d95f1fb3cef1da0a831e328482d9fb5cc7"), looks := false }, kinds := [], alts := [], laidByText := true, laidKinds := [.data, .data, .data], laidTests := true, laidLooks := .later }
def FnExactSumSealUptoCardSaid : Prop := Claim7.holds Tryd.pinned (.plain (OpenSpec.upto fnExactSumSealSpec)) fnExactSumSealUptoCard

/-- THE SECOND FORM's CARD OF 'laws.FnExactBookName'. -/
def fnExactBookNameUptoCard : Claim7 := { stood := { row := fnExactBookNameUptoRow, standIns := [], harness := (true, "20b36905b73c189edc285271c151b0d95f1fb3cef1da0a831e328482d9fb5cc7"), looks := false }, kinds := [], alts := [], laidByText := true, laidKinds := [.data, .pinned], laidTests := true, laidLooks := .later }
def FnExactBookNameUptoCardSaid : Prop := Claim7.holds Tryd.pinned (.plain (OpenSpec.upto fnExactBookNameSpec)) fnExactBookNameUptoCard

/-- THE SECOND FORM's CARD OF 'laws.FnExactPtrText'. -/
def fnExactPtrTextUptoCard : Claim7 := { stood := { row := fnExactPtrTextUptoRow, standIns := [], harness := (true, "20b36905b73c189edc285271c151b0d95f1fb3cef1da0a831e328482d9fb5cc7"), looks := false }, kinds := [], alts := [], laidByText := true, laidKinds := [.data, .data, .data], laidTests := true, laidLooks := .later }
def FnExactPtrTextUptoCardSaid : Prop := Claim7.holds Tryd.pinned (.plain (OpenSpec.upto fnExactPtrTextSpec)) fnExactPtrTextUptoCard

/-- THE SECOND FORM's CARD OF 'laws.FnExactCoreMap'. -/
def fnExactCoreMapUptoCard : Claim7 := { stood := { row := fnExactCoreMapUptoRow, standIns := [], harness := (true, "20b36905b73c189edc285271c151b0d95f1fb3cef1da0a831e328482d9fb5cc7"), looks := false }, kinds := [], alts := [], laidByText := true, laidKinds := [.data, .data, .data], laidTests := true, laidLooks := .later }
def FnExactCoreMapUptoCardSaid : Prop := Claim7.holds Tryd.pinned (.plain (OpenSpec.upto fnExactCoreMapSpec)) fnExactCoreMapUptoCard

/-- THE SECOND FORM's CARD OF 'laws.FnExactSumOpen'. -/
def fnExactSumOpenUptoCard : Claim7 := { stood := { row := fnExactSumOpenUptoRow, standIns := [], harness := (true, "20b36905b73c189edc285271c151b0d95f1fb3cef1da0a831e328482d9fb5cc7"), looks := false }, kinds := [], alts := [], laidByText := true, laidKinds := [.data, .data, .data], laidTests := true, laidLooks := .later }
def FnExactSumOpenUptoCardSaid : Prop := Claim7.holds Tryd.pinned (.plain (OpenSpec.upto fnExactSumOpenSpec)) fnExactSumOpenUptoCard

/-- THE SECOND FORM's CARD OF 'laws.FnExactCoreUber'. -/
def fnExactCoreUberUptoCard : Claim7 := { stood := { row := fnExactCoreUberUptoRow, standIns := [], harness := (true, "20b36905b73c189edc285271c151b0d95f1fb3cef1da0a831e328482d9fb5cc7"), looks := false }, kinds := [], alts := [], laidByText := true, laidKinds := [.data, .data, .data], laidTests := true, laidLooks := .later }
def FnExactCoreUberUptoCardSaid : Prop := Claim7.holds Tryd.pinned (.plain (OpenSpec.upto fnExactCoreUberSpec)) fnExactCoreUberUptoCard

/-- THE SECOND FORM's CARD OF 'laws.FnExactDdtText'. -/
def fnExactDdtTextUptoCard : Claim7 := { stood := { row := fnExactDdtTextUptoRow, standIns := [], harness := (true, "20b36905b73c189edc285271c151b0d95f1fb3cef1da0a831e328482d9fb5cc7"), looks := false }, kinds := [], alts := [], laidByText := true, laidKinds := [.data, .data, .data], laidTests := true, laidLooks := .later }
def FnExactDdtTextUptoCardSaid : Prop := Claim7.holds Tryd.pinned (.plain (OpenSpec.upto fnExactDdtTextSpec)) fnExactDdtTextUptoCard

/-- THE SECOND FORM's CARD OF 'laws.FnExactBookOk'. -/
def fnExactBookOkUptoCard : Claim7 := { stood := { row := fnExactBookOkUptoRow, standIns := [], harness := (true, "20b36905b73c189edc285271c151b0d95f1fb3cef1da0a831e328482d9fb5cc7"), looks := false }, kinds := [], alts := [], laidByText := true, laidKinds := [.data, .pinned], laidTests := true, laidLooks := .later }
def FnExactBookOkUptoCardSaid : Prop := Claim7.holds Tryd.pinned (.plain (OpenSpec.upto fnExactBookOkSpec)) fnExactBookOkUptoCard

/-- THE SECOND FORM's CARD OF 'laws.FnExactBookGet'. -/
def fnExactBookGetUptoCard : Claim7 := { stood := { row := fnExactBookGetUptoRow, standIns := [], harness := (true, "20b36905b73c189edc285271c151b0d95f1fb3cef1da0a831e328482d9fb5cc7"), looks := false }, kinds := [], alts := [], laidByText := true, laidKinds := [.data, .pinned], laidTests := true, laidLooks := .later }
def FnExactBookGetUptoCardSaid : Prop := Claim7.holds Tryd.pinned (.plain (OpenSpec.upto fnExactBookGetSpec)) fnExactBookGetUptoCard

/-- THE SECOND FORM's CARD OF 'laws.FnExactLogText'. -/
def fnExactLogTextUptoCard : Claim7 := { stood := { row := fnExactLogTextUptoRow, standIns := [], harness := (true, "20b36905b73c189edc285271c151b0d95f1fb3cef1da0a831e328482d9fb5cc7"), looks := false }, kinds := [], alts := [], laidByText := true, laidKinds := [.data, .data, .data, .data, .pinned], laidTests := true, laidLooks := .later }
def FnExactLogTextUptoCardSaid : Prop := Claim7.holds Tryd.pinned (.plain (OpenSpec.upto fnExactLogTextSpec)) fnExactLogTextUptoCard
end Rows
end Go.Proofs.YtljilcingbohkaaDoor

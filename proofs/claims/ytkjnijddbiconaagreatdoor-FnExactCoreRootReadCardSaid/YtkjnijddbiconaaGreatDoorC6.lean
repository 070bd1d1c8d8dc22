/- Counts of a core: contracts. -/
import Derived.Test.YtkjnijddbiconaaGreatDoorC5
namespace Go.Proofs.YtkjnijddbiconaaGreatDoor.Ev
open Go
set_option linter.unusedVariables false
set_option linter.unusedSimpArgs false
set_option maxRecDepth 100000
theorem take_next {α : Type} (s : List α) (dd : α) {i : Nat} (hi : i < s.length) : s.take (i + 1) = s.take i ++ [s.getD i dd] := by
  rw [List.take_add_one, List.getD_eq_getElem?_getD, List.getElem?_eq_getElem hi]
  rfl
end Go.Proofs.YtkjnijddbiconaaGreatDoor.Ev

/- Counts of a core: proofs. -/
import Derived.Test.YtkjnijddbiconaaGreatDoorC6
namespace Go.Proofs.YtkjnijddbiconaaGreatDoor.Ev
open Go
set_option linter.unusedVariables false
set_option linter.unusedSimpArgs false
set_option maxRecDepth 100000
set_option maxHeartbeats 1000000
end Go.Proofs.YtkjnijddbiconaaGreatDoor.Ev

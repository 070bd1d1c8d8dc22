/- Both ways of counting say the same. -/
import Derived.Test.YtkjnijddbiconaaGreatDoorC7
namespace Go.Proofs.YtkjnijddbiconaaGreatDoor.Ev
open Go
set_option linter.unusedVariables false
set_option linter.unusedSimpArgs false
set_option maxRecDepth 100000
set_option maxHeartbeats 1000000
end Go.Proofs.YtkjnijddbiconaaGreatDoor.Ev

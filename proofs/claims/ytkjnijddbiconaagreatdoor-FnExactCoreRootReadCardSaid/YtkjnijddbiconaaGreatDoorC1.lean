/- Contracts for cores: sizes, copies. -/
import Derived.Test.YtkjnijddbiconaaGreatDoorD5
import Derived.Test.YtkjnijddbiconaaGreatDoorD12
namespace Go.Proofs.YtkjnijddbiconaaGreatDoor.Ev
open Go
set_option linter.unusedVariables false
set_option linter.unusedSimpArgs false
set_option maxRecDepth 100000
abbrev kc : List CK := [.str, .int .i64, .str, .int .i64, .int .i64, .int .i64, .int .i64, .int .i64, .int .i64, .int .i64, .int .i64, .int .i64, .int .i64, .int .i64, .int .i64, .int .i64, .int .i64, .int .i64, .int .i64, .int .i64, .int .i64, .int .i64, .int .i64, .int .i64, .int .i64, .int .i64, .int .i64, .int .i64, .int .i64, .int .i64, .bool]

end Go.Proofs.YtkjnijddbiconaaGreatDoor.Ev


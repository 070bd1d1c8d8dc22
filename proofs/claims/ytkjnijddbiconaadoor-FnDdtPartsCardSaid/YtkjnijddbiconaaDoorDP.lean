/- Pointers that are valid. -/
import Derived.Test.YtkjnijddbiconaaDoorDS
namespace Go.Proofs.YtkjnijddbiconaaDoor.Ev
open Go
set_option linter.unusedVariables false
set_option linter.unusedSimpArgs false
set_option maxRecDepth 100000
end Go.Proofs.YtkjnijddbiconaaDoor.Ev

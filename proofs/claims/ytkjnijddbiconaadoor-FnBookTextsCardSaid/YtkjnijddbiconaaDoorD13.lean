/- Contracts for books: copies, equality. -/
import Derived.Test.YtkjnijddbiconaaDoorD12
namespace Go.Proofs.YtkjnijddbiconaaDoor.Ev
open Go
set_option linter.unusedVariables false
set_option linter.unusedSimpArgs false
set_option maxRecDepth 100000
abbrev k8 : List CK := [.str, .str, .str, .str, .str, .str, .str, .str]
end Go.Proofs.YtkjnijddbiconaaDoor.Ev


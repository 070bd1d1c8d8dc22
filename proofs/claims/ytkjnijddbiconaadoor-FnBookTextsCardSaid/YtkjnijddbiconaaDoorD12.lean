/- Contracts for books: sizes, copies, equality. -/
import Derived.Test.YtkjnijddbiconaaDoorD8
namespace Go.Proofs.YtkjnijddbiconaaDoor.Ev
open Go
set_option linter.unusedVariables false
set_option linter.unusedSimpArgs false
set_option maxRecDepth 100000
abbrev s8 (a0 a1 a2 a3 a4 a5 a6 a7 : ByteArray) : AV := .agg [.val (.string a0), .val (.string a1), .val (.string a2), .val (.string a3), .val (.string a4), .val (.string a5), .val (.string a6), .val (.string a7)]
abbrev kb : List CK := [.str, .int .i64, .str, .str, .str, .str, .str, .str, .str, .str, .str]
end Go.Proofs.YtkjnijddbiconaaDoor.Ev


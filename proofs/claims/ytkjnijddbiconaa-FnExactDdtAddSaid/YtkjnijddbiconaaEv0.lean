/- The tables that the program's start has laid: none. -/
import Derived.Calls
namespace Go.Proofs.Ytkjnijddbiconaa.Ev
open Go
def TabW (_ : World) : Prop := True
end Go.Proofs.Ytkjnijddbiconaa.Ev

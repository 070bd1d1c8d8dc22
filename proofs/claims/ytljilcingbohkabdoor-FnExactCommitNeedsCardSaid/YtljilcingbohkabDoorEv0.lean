/- The tables that the program's start has laid: none is asked for. -/
import Derived.Calls
namespace Go.Proofs.YtljilcingbohkabDoor.Ev
open Go
def TabW (_ : World) : Prop := True
end Go.Proofs.YtljilcingbohkabDoor.Ev

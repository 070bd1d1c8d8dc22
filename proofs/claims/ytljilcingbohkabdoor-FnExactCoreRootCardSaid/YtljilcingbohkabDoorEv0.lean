/- The tables that the program's start has laid. -/
import Derived.Test.YtljilcingbohkabDoorProg
import GoSem.Claims
namespace Go.Proofs.YtljilcingbohkabDoor.Ev
open Go
def tabPow : List Int := [1, 10, 100, 1000, 10000, 100000, 1000000, 10000000, 100000000, 1000000000, 10000000000, 100000000000, 1000000000000, 10000000000000, 100000000000000, 1000000000000000, 10000000000000000, 100000000000000000, 1000000000000000000, 10000000000000000000]
def TabW (w : World) : Prop := w.var? Tryd.prog "internal/strconv.uint64pow10" = some (tabPow.map fun z => Value.int .u64 z).toArray ∧ (∃ m, w.cell? ⟨2, 0, none⟩ = some (.int .i64 m)) ∧ True
end Go.Proofs.YtljilcingbohkabDoor.Ev

/- Sizes that fit. -/
import Derived.Test.YtljilcingbohkaaDoorEv25
namespace Go.Proofs.YtljilcingbohkaaDoor.Ev
open Go
def inL (l : Int) : Bool := decide (0 ≤ l ∧ l ≤ 1048576)
def inS (a : ByteArray) : Bool := decide (a.size ≤ 9223372036854775807)
end Go.Proofs.YtljilcingbohkaaDoor.Ev

/- The law of DdtText. -/
import Derived.Test.YtljilcingbohkabDoorD6
import Derived.Test.YtljilcingbohkabDoorD3T
namespace Go.Proofs.YtljilcingbohkabDoor.Ev
open Go
set_option linter.unusedVariables false
set_option linter.unusedSimpArgs false
set_option maxRecDepth 100000
theorem eq3_self (a : Elem k3) : eq3 a a = true := by simp [eq3]
theorem eqF_self (xs : List (Elem k3)) : eqF xs xs = true := by
  unfold eqF
  have : ((List.range xs.length).all fun i => eq3 (at3 xs i) (at3 xs i)) = true := by
    rw [List.all_eq_true]
    intro j _
    exact eq3_self _
  rw [this]
  simp
end Go.Proofs.YtljilcingbohkabDoor.Ev

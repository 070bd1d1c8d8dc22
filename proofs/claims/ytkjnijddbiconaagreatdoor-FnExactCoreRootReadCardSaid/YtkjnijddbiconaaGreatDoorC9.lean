/- The law of CoreOk. -/
import Derived.Test.YtkjnijddbiconaaGreatDoorC8
namespace Go.Proofs.YtkjnijddbiconaaGreatDoor.Ev
open Go
set_option linter.unusedVariables false
set_option linter.unusedSimpArgs false
set_option maxRecDepth 100000
set_option maxHeartbeats 1000000
def smCs (s : List (Elem kc)) : Bool := decide (s.length ≤ 1048576) && s.all smC
def smB' (c : Co) : Bool := smCo c && smCs c.2.1
theorem smCs_at {s : List (Elem kc)} (h : smCs s = true) {i : Nat} (hi : i < s.length) : smC (atC s i) = true := by
  unfold smCs at h
  rw [Bool.and_eq_true] at h
  exact all_at h.2 (edflt kc) hi
end Go.Proofs.YtkjnijddbiconaaGreatDoor.Ev

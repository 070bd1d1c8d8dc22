/- What all texts share: sizes that fit, small laws. -/
import Derived.Test.YtkjnijddbiconaaDoorTt
import Derived.Test.YtkjnijddbiconaaDoorEvB
import Derived.Test.YtkjnijddbiconaaDoorEvC
namespace Go.Proofs.YtkjnijddbiconaaDoor.Ev
open Go
set_option linter.unusedVariables false
set_option linter.unusedSimpArgs false
set_option maxRecDepth 100000
abbrev ks : List CK := [.str]
abbrev k3 : List CK := [.int .i64, .int .i64, .int .i64]
abbrev ki : List CK := [.int .i64]
abbrev ku : List CK := [.int .u8]
def at1 (xs : List (Elem ks)) (i : Nat) : ByteArray := (xs.getD i (edflt ks)).1
theorem byteAt_lt (t : ByteArray) (i : Int) : 0 ≤ byteAt t i ∧ byteAt t i ≤ 255 := by
  unfold byteAt
  split
  · rename_i h
    have := (t[i.toNat]'h).toNat_lt
    omega
  · omega
theorem strEq_self (t : ByteArray) : strEq t t = true := by simp [strEq]
end Go.Proofs.YtkjnijddbiconaaDoor.Ev

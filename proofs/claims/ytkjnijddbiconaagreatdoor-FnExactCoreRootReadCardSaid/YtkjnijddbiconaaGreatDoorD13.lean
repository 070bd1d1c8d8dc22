/- Contracts for books: copies, equality. -/
import Derived.Test.YtkjnijddbiconaaGreatDoorD12
namespace Go.Proofs.YtkjnijddbiconaaGreatDoor.Ev
open Go
set_option linter.unusedVariables false
set_option linter.unusedSimpArgs false
set_option maxRecDepth 100000
abbrev k8 : List CK := [.str, .str, .str, .str, .str, .str, .str, .str]
def eqR (cs : List CK) (xs ys : List (Elem cs)) : Bool := eqL (elemEq cs) (edflt cs) xs ys
theorem ckEq_self : ∀ (c : CK) (a : c.T), ckEq c a a = true
  | .int _, a => by simp [ckEq]
  | .str, a => by simp [ckEq, strEq]
  | .bool, a => by simp [ckEq]
theorem elemEq_self : ∀ (cs : List CK) (a : Elem cs), elemEq cs a a = true
  | [], _ => rfl
  | [c], a => ckEq_self c a.1
  | c :: c' :: cs, a => by
    show (ckEq c a.1 a.1 && elemEq (c' :: cs) a.2 a.2) = true
    rw [ckEq_self, elemEq_self]
    rfl
theorem eqR_self (cs : List CK) (xs : List (Elem cs)) : eqR cs xs xs = true := eqL_self (elemEq_self cs) xs
end Go.Proofs.YtkjnijddbiconaaGreatDoor.Ev


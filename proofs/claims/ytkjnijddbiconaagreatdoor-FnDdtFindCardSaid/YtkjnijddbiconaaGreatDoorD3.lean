/- The law of PtrText. -/
import Derived.Test.YtkjnijddbiconaaGreatDoorD1
import Derived.Test.YtkjnijddbiconaaGreatDoorDP
namespace Go.Proofs.YtkjnijddbiconaaGreatDoor.Ev
open Go
set_option linter.unusedVariables false
set_option linter.unusedSimpArgs false
set_option maxRecDepth 100000
def joinT (ys : List (Elem ks)) (sep : ByteArray) : ByteArray := ⟨(sep.data.toList.intercalate (ys.map fun e => e.1.data.toList)).toArray⟩
def g119 : G1
  | [.rsl [.str] ys, .val (.string sep)], [], k => br (decide (ys.length ≤ 1048576) && decide ((joinT ys sep).size ≤ 1099511627776)) (k ⟨.val (.string (joinT ys sep)), [], []⟩) False
  | _, _, _ => False
theorem flat_ks : ∀ (ys : List (Elem ks)), flat ks ys = ys.map fun e => .string e.1
  | [] => rfl
  | e :: ys => by
    show vals ks e ++ flat ks ys = _
    rw [flat_ks ys]
    rfl
def decS (xs : List (Elem ki)) : List (Elem ks) := xs.map fun e => (dec e.1, ())
def allN (xs : List (Elem ki)) : Bool := xs.all fun e => inN e.1
def g118 : G1
  | [.rsl [.int .i64] xs], [], k => br (allN xs && (decide (xs.length ≤ 1048576) && decide ((joinT (decS xs) ⟨#[46]⟩).size ≤ 1099511627776))) (k ⟨.val (.string (joinT (decS xs) ⟨#[46]⟩)), [], []⟩) False
  | _, _, _ => False
theorem join3 (a b c p : ByteArray) : joinT [(a, ()), (b, ()), (c, ())] p = a ++ p ++ b ++ p ++ c := by
  unfold joinT
  apply ByteArray.ext
  rw [ByteArray.data_append, ByteArray.data_append, ByteArray.data_append, ByteArray.data_append]
  apply Array.ext'
  simp [List.intercalate, List.intersperse]
end Go.Proofs.YtkjnijddbiconaaGreatDoor.Ev

/- Contracts for books: sizes, copies, equality. -/
import Derived.Test.YtkjnijddbiconaaGreatDoorD8
namespace Go.Proofs.YtkjnijddbiconaaGreatDoor.Ev
open Go
set_option linter.unusedVariables false
set_option linter.unusedSimpArgs false
set_option maxRecDepth 100000
abbrev s8 (a0 a1 a2 a3 a4 a5 a6 a7 : ByteArray) : AV := .agg [.val (.string a0), .val (.string a1), .val (.string a2), .val (.string a3), .val (.string a4), .val (.string a5), .val (.string a6), .val (.string a7)]
def sz8 (a0 a1 a2 a3 a4 a5 a6 a7 : ByteArray) : Nat := a0.size + a1.size + a2.size + a3.size + a4.size + a5.size + a6.size + a7.size
def in8 (a0 a1 a2 a3 a4 a5 a6 a7 : ByteArray) : Bool := inS a0 && inS a1 && inS a2 && inS a3 && inS a4 && inS a5 && inS a6 && inS a7
abbrev kb : List CK := [.str, .int .i64, .str, .str, .str, .str, .str, .str, .str, .str, .str]
def szB (e : Elem kb) : Nat := e.1.size + e.2.2.1.size + sz8 e.2.2.2.1 e.2.2.2.2.1 e.2.2.2.2.2.1 e.2.2.2.2.2.2.1 e.2.2.2.2.2.2.2.1 e.2.2.2.2.2.2.2.2.1 e.2.2.2.2.2.2.2.2.2.1 e.2.2.2.2.2.2.2.2.2.2.1
def inB (e : Elem kb) : Bool := inS e.1 && inS e.2.2.1 && in8 e.2.2.2.1 e.2.2.2.2.1 e.2.2.2.2.2.1 e.2.2.2.2.2.2.1 e.2.2.2.2.2.2.2.1 e.2.2.2.2.2.2.2.2.1 e.2.2.2.2.2.2.2.2.2.1 e.2.2.2.2.2.2.2.2.2.2.1
def szBs (xs : List (Elem kb)) : Nat := xs.length + (xs.map szB).sum
def inBs (xs : List (Elem kb)) : Bool := decide (xs.length ≤ 9223372036854775807) && xs.all inB
def pre8 (a0 a1 a2 a3 a4 a5 a6 a7 : ByteArray) (i : Nat) : Nat := (([a0, a1, a2, a3, a4, a5, a6, a7].take i).map (·.size)).sum
end Go.Proofs.YtkjnijddbiconaaGreatDoor.Ev


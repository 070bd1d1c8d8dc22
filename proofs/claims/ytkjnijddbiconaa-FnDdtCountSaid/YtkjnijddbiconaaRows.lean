/-
  No cell of these rows narrows 'for every input' (looked for: loops, veiled, ifaces, maps, wideKeys, modest, calm, conditions, laid).
  DERIVED. THE GIVEN ROWS OF THIS SEAT. 3 by the template 'for every input the law returns true; each argument reads behind the call as it read before'; 0 by the template 'total and deterministic' (their statements: YtkjnijddbiconaaTotals.lean).
  GIVEN WITH THE SEED: the statements are not yours to turn. If you find one false, say at which input.
  Laid BY PROGRAM, IN A SANDBOX (cutbox-rows.mjs): the forced cells as the released guide's own fill.sh prints them over the translation 7149b1f9e8af37d2… (all of the seat's roots in one cut). By AI agents, Wed Nov 11 2026. No macro, syntax, notation, axiom, sorry.
-/
import Derived.Test.YtkjnijddbiconaaChecked
import GoSem.Claim
import GoSem.ClaimJoined
import GoSem.ClaimMapViews
import Derived.JoinedTies
import Derived.KernelRfl
namespace Go.Proofs.Ytkjnijddbiconaa
/- THE CELL 'sum', in the pinned program and in every row, IS THE sha256 OF THE DUMP (.gsa) THAT YtkjnijddbiconaaProg.lean LOADS. Nothing in Lean hashes anything: it is a label: what it is worth is what the hold of that sum in a sandbox is worth. -/
noncomputable def Try.pinned : Pinned := { name := "ytkjnijddbiconaa", sum := "7149b1f9e8af37d2d67da5b400eb8739d8a93f07ff441478c2eefc93a0d7f559", checked := Try.checked }
namespace Rows
def none {H : Type} : Left H := { results := [], args := [] }

/-- 'laws.FnExactDdtDrop': WHATEVER THE INPUT: true; the input reads as it did. -/
def fnExactDdtDropSpec : ChangeSpec := { name := "fnExactDdtDrop", fn := fun _ => fun
  | [d1, d2] => { results := [.lit (.bool true)], args := [d1, d2] }
  | _ => none }
def fnExactDdtDropRow : OpenClaim := { program := "ytkjnijddbiconaa", sum := "7149b1f9e8af37d2d67da5b400eb8739d8a93f07ff441478c2eefc93a0d7f559", func := "loop.example/palim/laws.FnExactDdtDrop", spec := "fnExactDdtDrop", unfollowed := true, recurses := true, apart := false }
def FnExactDdtDropSaid : Prop := fnExactDdtDropRow.holds Try.pinned (OpenSpec.ofChange fnExactDdtDropSpec)

/-- ITS FALSE NEIGHBOUR: 'it returns false'. Refute it at one input. -/
def fnExactDdtDropWrong : ChangeSpec := { name := "fnExactDdtDrop", fn := fun _ => fun
  | [d1, d2] => { results := [.lit (.bool false)], args := [d1, d2] }
  | _ => none }
def FnExactDdtDropWrongFalsely : Prop := fnExactDdtDropRow.holds Try.pinned (OpenSpec.ofChange fnExactDdtDropWrong)

/-- 'laws.FnExactDdtAdd': WHATEVER THE INPUT: true; the input reads as it did. -/
def fnExactDdtAddSpec : ChangeSpec := { name := "fnExactDdtAdd", fn := fun _ => fun
  | [d1, d2, d3] => { results := [.lit (.bool true)], args := [d1, d2, d3] }
  | _ => none }
def fnExactDdtAddRow : OpenClaim := { program := "ytkjnijddbiconaa", sum := "7149b1f9e8af37d2d67da5b400eb8739d8a93f07ff441478c2eefc93a0d7f559", func := "loop.example/palim/laws.FnExactDdtAdd", spec := "fnExactDdtAdd", inPlace := ["slices.overlaps[loop.example/palim/impl.DdtEntry]"], unfollowed := true, recurses := true, apart := false }
def FnExactDdtAddSaid : Prop := fnExactDdtAddRow.holds Try.pinned (OpenSpec.ofChange fnExactDdtAddSpec)

/-- ITS FALSE NEIGHBOUR: 'it returns false'. Refute it at one input. -/
def fnExactDdtAddWrong : ChangeSpec := { name := "fnExactDdtAdd", fn := fun _ => fun
  | [d1, d2, d3] => { results := [.lit (.bool false)], args := [d1, d2, d3] }
  | _ => none }
def FnExactDdtAddWrongFalsely : Prop := fnExactDdtAddRow.holds Try.pinned (OpenSpec.ofChange fnExactDdtAddWrong)

/-- 'laws.FnDdtCount': WHATEVER THE INPUT: true; the input reads as it did. -/
def fnDdtCountSpec : ChangeSpec := { name := "fnDdtCount", fn := fun _ => fun
  | [d] => { results := [.lit (.bool true)], args := [d] }
  | _ => none }
def fnDdtCountRow : OpenClaim := { program := "ytkjnijddbiconaa", sum := "7149b1f9e8af37d2d67da5b400eb8739d8a93f07ff441478c2eefc93a0d7f559", func := "loop.example/palim/laws.FnDdtCount", spec := "fnDdtCount", inPlace := ["slices.overlaps[loop.example/palim/impl.DdtEntry]"], unfollowed := true, recurses := true, apart := false }
def FnDdtCountSaid : Prop := fnDdtCountRow.holds Try.pinned (OpenSpec.ofChange fnDdtCountSpec)

/-- ITS FALSE NEIGHBOUR: 'it returns false'. Refute it at one input. -/
def fnDdtCountWrong : ChangeSpec := { name := "fnDdtCount", fn := fun _ => fun
  | [d] => { results := [.lit (.bool false)], args := [d] }
  | _ => none }
def FnDdtCountWrongFalsely : Prop := fnDdtCountRow.holds Try.pinned (OpenSpec.ofChange fnDdtCountWrong)

/- THE SECOND FORM. 'bulk': how many values and letters a reading holds, each counted each time it is reached (what is shared counts as often as it is met; a slice's spare places count too). A statement '..UptoSaid' is the law's where the arguments, and the package variables that the reading takes, are together of bulk at most 1048576: NARROWER than '..Said'. Prove '..Said' where nothing that the law and all that it calls make is longer than what came in: it says more and counts as full. Else prove '..UptoSaid'. A law counts once. -/
mutual
def uptoBulk {H : Type} : DataW H → Nat
  | .lit (.string bytes) => bytes.length + 1
  | .lit _ => 1
  | .nil => 1
  | .ptr d => uptoBulk d + 1
  | .slice elems spare => uptoBulkAll elems + uptoBulkAll spare + 1
  | .agg parts => uptoBulkAll parts + 1
  | .iface _ d => uptoBulk d + 1
  | .map entries => uptoBulkEntries entries + 1
  | .held _ => 1
def uptoBulkAll {H : Type} : List (DataW H) → Nat
  | [] => 0
  | d :: r => uptoBulk d + uptoBulkAll r
def uptoBulkEntries {H : Type} : List (Lit × DataW H) → Nat
  | [] => 0
  | x :: r => uptoBulkEntry x + uptoBulkEntries r
def uptoBulkEntry {H : Type} : Lit × DataW H → Nat
  | (.string bytes, d) => bytes.length + uptoBulk d + 1
  | (_, d) => uptoBulk d + 1
 end
def uptoSmall : (H : Type) → List (DataW H) → Bool := fun _ ds => decide (uptoBulkAll ds ≤ 1048576)
def OpenSpec.upto (s : _root_.Go.ChangeSpec) : _root_.Go.OpenSpec := { _root_.Go.OpenSpec.ofChange s with cond := some uptoSmall }

/-- 'laws.FnExactDdtDrop', WHERE WHAT IT READS IS OF BULK AT MOST 1048576: true; the input reads as it did. -/
def fnExactDdtDropUptoRow : OpenClaim := { program := "ytkjnijddbiconaa", sum := "7149b1f9e8af37d2d67da5b400eb8739d8a93f07ff441478c2eefc93a0d7f559", func := "loop.example/palim/laws.FnExactDdtDrop", spec := "fnExactDdtDrop", unfollowed := true, recurses := true, apart := false, narrowed := true }
def FnExactDdtDropUptoSaid : Prop := fnExactDdtDropUptoRow.holds Try.pinned (OpenSpec.upto fnExactDdtDropSpec)

/-- 'laws.FnExactDdtAdd', WHERE WHAT IT READS IS OF BULK AT MOST 1048576: true; the input reads as it did. -/
def fnExactDdtAddUptoRow : OpenClaim := { program := "ytkjnijddbiconaa", sum := "7149b1f9e8af37d2d67da5b400eb8739d8a93f07ff441478c2eefc93a0d7f559", func := "loop.example/palim/laws.FnExactDdtAdd", spec := "fnExactDdtAdd", inPlace := ["slices.overlaps[loop.example/palim/impl.DdtEntry]"], unfollowed := true, recurses := true, apart := false, narrowed := true }
def FnExactDdtAddUptoSaid : Prop := fnExactDdtAddUptoRow.holds Try.pinned (OpenSpec.upto fnExactDdtAddSpec)

/-- 'laws.FnDdtCount', WHERE WHAT IT READS IS OF BULK AT MOST 1048576: true; the input reads as it did. -/
def fnDdtCountUptoRow : OpenClaim := { program := "ytkjnijddbiconaa", sum := "7149b1f9e8af37d2d67da5b400eb8739d8a93f07ff441478c2eefc93a0d7f559", func := "loop.example/palim/laws.FnDdtCount", spec := "fnDdtCount", inPlace := ["slices.overlaps[loop.example/palim/impl.DdtEntry]"], unfollowed := true, recurses := true, apart := false, narrowed := true }
def FnDdtCountUptoSaid : Prop := fnDdtCountUptoRow.holds Try.pinned (OpenSpec.upto fnDdtCountSpec)

end Rows
end Go.Proofs.Ytkjnijddbiconaa

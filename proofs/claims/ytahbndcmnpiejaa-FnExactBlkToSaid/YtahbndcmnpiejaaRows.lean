/-
  No cell of these rows narrows 'for every input' (looked for: loops, veiled, ifaces, maps, wideKeys, modest, calm, conditions, laid).
  DERIVED. THE GIVEN ROWS OF THIS SEAT. 12 by the template 'for every input the law returns true; each argument reads behind the call as it read before'; 0 by the template 'total and deterministic' (their statements: YtahbndcmnpiejaaTotals.lean).
  GIVEN WITH THE SEED: the statements are not yours to turn. If you find one false, say at which input.
  Laid BY PROGRAM, IN A SANDBOX (cutbox-rows.mjs): the forced cells as the released guide's own fill.sh prints them over the translation ab2a5401183a4649… (all of the seat's roots in one cut). By AI agents, Wed Nov 11 2026. No macro, syntax, notation, axiom, sorry.
-/
import Derived.Test.YtahbndcmnpiejaaChecked
import GoSem.Claim
import GoSem.ClaimJoined
import GoSem.ClaimMapViews
import Derived.JoinedTies
import Derived.KernelRfl
namespace Go.Proofs.Ytahbndcmnpiejaa
/- THE CELL 'sum', in the pinned program and in every row, IS THE sha256 OF THE DUMP (.gsa) THAT YtahbndcmnpiejaaProg.lean LOADS. Nothing in Lean hashes anything: it is a label: what it is worth is what the hold of that sum in a sandbox is worth. -/
noncomputable def Try.pinned : Pinned := { name := "ytahbndcmnpiejaa", sum := "ab2a5401183a46499a7d5b77ee3f60197381050aa0232775d3164ba5e6d29b3b", checked := Try.checked }
namespace Rows
def none {H : Type} : Left H := { results := [], args := [] }

/-- 'laws.FnExactConstants': WHATEVER THE INPUT: true; the input reads as it did. -/
def fnExactConstantsSpec : ChangeSpec := { name := "fnExactConstants", fn := fun _ => fun
  | [] => { results := [.lit (.bool true)], args := [] }
  | _ => none }
def fnExactConstantsRow : OpenClaim := { program := "ytahbndcmnpiejaa", sum := "ab2a5401183a46499a7d5b77ee3f60197381050aa0232775d3164ba5e6d29b3b", func := "loop.example/palim/laws.FnExactConstants", spec := "fnExactConstants", apart := false }
def FnExactConstantsSaid : Prop := fnExactConstantsRow.holds Try.pinned (OpenSpec.ofChange fnExactConstantsSpec)

/-- ITS FALSE NEIGHBOUR: 'it returns false'. Refute it at one input. -/
def fnExactConstantsWrong : ChangeSpec := { name := "fnExactConstants", fn := fun _ => fun
  | [] => { results := [.lit (.bool false)], args := [] }
  | _ => none }
def FnExactConstantsWrongFalsely : Prop := fnExactConstantsRow.holds Try.pinned (OpenSpec.ofChange fnExactConstantsWrong)

/-- 'laws.FnExactSumOf': WHATEVER THE INPUT: true; the input reads as it did. -/
def fnExactSumOfSpec : ChangeSpec := { name := "fnExactSumOf", fn := fun _ => fun
  | [d] => { results := [.lit (.bool true)], args := [d] }
  | _ => none }
def fnExactSumOfRow : OpenClaim := { program := "ytahbndcmnpiejaa", sum := "ab2a5401183a46499a7d5b77ee3f60197381050aa0232775d3164ba5e6d29b3b", func := "loop.example/palim/laws.FnExactSumOf", spec := "fnExactSumOf", apart := false }
def FnExactSumOfSaid : Prop := fnExactSumOfRow.holds Try.pinned (OpenSpec.ofChange fnExactSumOfSpec)

/-- ITS FALSE NEIGHBOUR: 'it returns false'. Refute it at one input. -/
def fnExactSumOfWrong : ChangeSpec := { name := "fnExactSumOf", fn := fun _ => fun
  | [d] => { results := [.lit (.bool false)], args := [d] }
  | _ => none }
def FnExactSumOfWrongFalsely : Prop := fnExactSumOfRow.holds Try.pinned (OpenSpec.ofChange fnExactSumOfWrong)

/-- 'laws.FnExactSumHex': WHATEVER THE INPUT: true; the input reads as it did. -/
def fnExactSumHexSpec : ChangeSpec := { name := "fnExactSumHex", fn := fun _ => fun
  | [d] => { results := [.lit (.bool true)], args := [d] }
  | _ => none }
def fnExactSumHexRow : OpenClaim := { program := "ytahbndcmnpiejaa", sum := "ab2a5401183a46499a7d5b77ee3f60197381050aa0232775d3164ba5e6d29b3b", func := "loop.example/palim/laws.FnExactSumHex", spec := "fnExactSumHex", apart := false }
def FnExactSumHexSaid : Prop := fnExactSumHexRow.holds Try.pinned (OpenSpec.ofChange fnExactSumHexSpec)

/-- ITS FALSE NEIGHBOUR: 'it returns false'. Refute it at one input. -/
def fnExactSumHexWrong : ChangeSpec := { name := "fnExactSumHex", fn := fun _ => fun
  | [d] => { results := [.lit (.bool false)], args := [d] }
  | _ => none }
def FnExactSumHexWrongFalsely : Prop := fnExactSumHexRow.holds Try.pinned (OpenSpec.ofChange fnExactSumHexWrong)

/-- 'laws.FnExactPtrOk': WHATEVER THE INPUT: true; the input reads as it did. -/
def fnExactPtrOkSpec : ChangeSpec := { name := "fnExactPtrOk", fn := fun _ => fun
  | [d] => { results := [.lit (.bool true)], args := [d] }
  | _ => none }
def fnExactPtrOkRow : OpenClaim := { program := "ytahbndcmnpiejaa", sum := "ab2a5401183a46499a7d5b77ee3f60197381050aa0232775d3164ba5e6d29b3b", func := "loop.example/palim/laws.FnExactPtrOk", spec := "fnExactPtrOk", apart := false }
def FnExactPtrOkSaid : Prop := fnExactPtrOkRow.holds Try.pinned (OpenSpec.ofChange fnExactPtrOkSpec)

/-- ITS FALSE NEIGHBOUR: 'it returns false'. Refute it at one input. -/
def fnExactPtrOkWrong : ChangeSpec := { name := "fnExactPtrOk", fn := fun _ => fun
  | [d] => { results := [.lit (.bool false)], args := [d] }
  | _ => none }
def FnExactPtrOkWrongFalsely : Prop := fnExactPtrOkRow.holds Try.pinned (OpenSpec.ofChange fnExactPtrOkWrong)

/-- 'laws.FnExactSumUnhex': WHATEVER THE INPUT: true; the input reads as it did. -/
def fnExactSumUnhexSpec : ChangeSpec := { name := "fnExactSumUnhex", fn := fun _ => fun
  | [d] => { results := [.lit (.bool true)], args := [d] }
  | _ => none }
def fnExactSumUnhexRow : OpenClaim := { program := "ytahbndcmnpiejaa", sum := "ab2a5401183a46499a7d5b77ee3f60197381050aa0232775d3164ba5e6d29b3b", func := "loop.example/palim/laws.FnExactSumUnhex", spec := "fnExactSumUnhex", inPlace := ["internal/bytealg.IndexByteString"], apart := false }
def FnExactSumUnhexSaid : Prop := fnExactSumUnhexRow.holds Try.pinned (OpenSpec.ofChange fnExactSumUnhexSpec)

/-- ITS FALSE NEIGHBOUR: 'it returns false'. Refute it at one input. -/
def fnExactSumUnhexWrong : ChangeSpec := { name := "fnExactSumUnhex", fn := fun _ => fun
  | [d] => { results := [.lit (.bool false)], args := [d] }
  | _ => none }
def FnExactSumUnhexWrongFalsely : Prop := fnExactSumUnhexRow.holds Try.pinned (OpenSpec.ofChange fnExactSumUnhexWrong)

/-- 'laws.FnExactBlkTo': WHATEVER THE INPUT: true; the input reads as it did. -/
def fnExactBlkToSpec : ChangeSpec := { name := "fnExactBlkTo", fn := fun _ => fun
  | [d1, d2, d3] => { results := [.lit (.bool true)], args := [d1, d2, d3] }
  | _ => none }
def fnExactBlkToRow : OpenClaim := { program := "ytahbndcmnpiejaa", sum := "ab2a5401183a46499a7d5b77ee3f60197381050aa0232775d3164ba5e6d29b3b", func := "loop.example/palim/laws.FnExactBlkTo", spec := "fnExactBlkTo", apart := false }
def FnExactBlkToSaid : Prop := fnExactBlkToRow.holds Try.pinned (OpenSpec.ofChange fnExactBlkToSpec)

/-- ITS FALSE NEIGHBOUR: 'it returns false'. Refute it at one input. -/
def fnExactBlkToWrong : ChangeSpec := { name := "fnExactBlkTo", fn := fun _ => fun
  | [d1, d2, d3] => { results := [.lit (.bool false)], args := [d1, d2, d3] }
  | _ => none }
def FnExactBlkToWrongFalsely : Prop := fnExactBlkToRow.holds Try.pinned (OpenSpec.ofChange fnExactBlkToWrong)

/-- 'laws.FnExactDdtOk': WHATEVER THE INPUT: true; the input reads as it did. -/
def fnExactDdtOkSpec : ChangeSpec := { name := "fnExactDdtOk", fn := fun _ => fun
  | [d] => { results := [.lit (.bool true)], args := [d] }
  | _ => none }
def fnExactDdtOkRow : OpenClaim := { program := "ytahbndcmnpiejaa", sum := "ab2a5401183a46499a7d5b77ee3f60197381050aa0232775d3164ba5e6d29b3b", func := "loop.example/palim/laws.FnExactDdtOk", spec := "fnExactDdtOk", apart := false }
def FnExactDdtOkSaid : Prop := fnExactDdtOkRow.holds Try.pinned (OpenSpec.ofChange fnExactDdtOkSpec)

/-- ITS FALSE NEIGHBOUR: 'it returns false'. Refute it at one input. -/
def fnExactDdtOkWrong : ChangeSpec := { name := "fnExactDdtOk", fn := fun _ => fun
  | [d] => { results := [.lit (.bool false)], args := [d] }
  | _ => none }
def FnExactDdtOkWrongFalsely : Prop := fnExactDdtOkRow.holds Try.pinned (OpenSpec.ofChange fnExactDdtOkWrong)

/-- 'laws.FnExactDdtCount': WHATEVER THE INPUT: true; the input reads as it did. -/
def fnExactDdtCountSpec : ChangeSpec := { name := "fnExactDdtCount", fn := fun _ => fun
  | [d1, d2] => { results := [.lit (.bool true)], args := [d1, d2] }
  | _ => none }
def fnExactDdtCountRow : OpenClaim := { program := "ytahbndcmnpiejaa", sum := "ab2a5401183a46499a7d5b77ee3f60197381050aa0232775d3164ba5e6d29b3b", func := "loop.example/palim/laws.FnExactDdtCount", spec := "fnExactDdtCount", unfollowed := true, recurses := true, apart := false }
def FnExactDdtCountSaid : Prop := fnExactDdtCountRow.holds Try.pinned (OpenSpec.ofChange fnExactDdtCountSpec)

/-- ITS FALSE NEIGHBOUR: 'it returns false'. Refute it at one input. -/
def fnExactDdtCountWrong : ChangeSpec := { name := "fnExactDdtCount", fn := fun _ => fun
  | [d1, d2] => { results := [.lit (.bool false)], args := [d1, d2] }
  | _ => none }
def FnExactDdtCountWrongFalsely : Prop := fnExactDdtCountRow.holds Try.pinned (OpenSpec.ofChange fnExactDdtCountWrong)

/-- 'laws.FnExactBookSame': WHATEVER THE INPUT: true; the input reads as it did. -/
def fnExactBookSameSpec : ChangeSpec := { name := "fnExactBookSame", fn := fun _ => fun
  | [d1, d2] => { results := [.lit (.bool true)], args := [d1, d2] }
  | _ => none }
def fnExactBookSameRow : OpenClaim := { program := "ytahbndcmnpiejaa", sum := "ab2a5401183a46499a7d5b77ee3f60197381050aa0232775d3164ba5e6d29b3b", func := "loop.example/palim/laws.FnExactBookSame", spec := "fnExactBookSame", apart := false }
def FnExactBookSameSaid : Prop := fnExactBookSameRow.holds Try.pinned (OpenSpec.ofChange fnExactBookSameSpec)

/-- ITS FALSE NEIGHBOUR: 'it returns false'. Refute it at one input. -/
def fnExactBookSameWrong : ChangeSpec := { name := "fnExactBookSame", fn := fun _ => fun
  | [d1, d2] => { results := [.lit (.bool false)], args := [d1, d2] }
  | _ => none }
def FnExactBookSameWrongFalsely : Prop := fnExactBookSameRow.holds Try.pinned (OpenSpec.ofChange fnExactBookSameWrong)

/-- 'laws.FnExactDiskOpen': WHATEVER THE INPUT: true; the input reads as it did. -/
def fnExactDiskOpenSpec : ChangeSpec := { name := "fnExactDiskOpen", fn := fun _ => fun
  | [d] => { results := [.lit (.bool true)], args := [d] }
  | _ => none }
def fnExactDiskOpenRow : OpenClaim := { program := "ytahbndcmnpiejaa", sum := "ab2a5401183a46499a7d5b77ee3f60197381050aa0232775d3164ba5e6d29b3b", func := "loop.example/palim/laws.FnExactDiskOpen", spec := "fnExactDiskOpen", apart := false }
def FnExactDiskOpenSaid : Prop := fnExactDiskOpenRow.holds Try.pinned (OpenSpec.ofChange fnExactDiskOpenSpec)

/-- ITS FALSE NEIGHBOUR: 'it returns false'. Refute it at one input. -/
def fnExactDiskOpenWrong : ChangeSpec := { name := "fnExactDiskOpen", fn := fun _ => fun
  | [d] => { results := [.lit (.bool false)], args := [d] }
  | _ => none }
def FnExactDiskOpenWrongFalsely : Prop := fnExactDiskOpenRow.holds Try.pinned (OpenSpec.ofChange fnExactDiskOpenWrong)

/-- 'laws.FnExactDiskSame': WHATEVER THE INPUT: true; the input reads as it did. -/
def fnExactDiskSameSpec : ChangeSpec := { name := "fnExactDiskSame", fn := fun _ => fun
  | [d1, d2] => { results := [.lit (.bool true)], args := [d1, d2] }
  | _ => none }
def fnExactDiskSameRow : OpenClaim := { program := "ytahbndcmnpiejaa", sum := "ab2a5401183a46499a7d5b77ee3f60197381050aa0232775d3164ba5e6d29b3b", func := "loop.example/palim/laws.FnExactDiskSame", spec := "fnExactDiskSame", apart := false }
def FnExactDiskSameSaid : Prop := fnExactDiskSameRow.holds Try.pinned (OpenSpec.ofChange fnExactDiskSameSpec)

/-- ITS FALSE NEIGHBOUR: 'it returns false'. Refute it at one input. -/
def fnExactDiskSameWrong : ChangeSpec := { name := "fnExactDiskSame", fn := fun _ => fun
  | [d1, d2] => { results := [.lit (.bool false)], args := [d1, d2] }
  | _ => none }
def FnExactDiskSameWrongFalsely : Prop := fnExactDiskSameRow.holds Try.pinned (OpenSpec.ofChange fnExactDiskSameWrong)

/-- 'laws.FnExactDiskOk': WHATEVER THE INPUT: true; the input reads as it did. -/
def fnExactDiskOkSpec : ChangeSpec := { name := "fnExactDiskOk", fn := fun _ => fun
  | [d] => { results := [.lit (.bool true)], args := [d] }
  | _ => none }
def fnExactDiskOkRow : OpenClaim := { program := "ytahbndcmnpiejaa", sum := "ab2a5401183a46499a7d5b77ee3f60197381050aa0232775d3164ba5e6d29b3b", func := "loop.example/palim/laws.FnExactDiskOk", spec := "fnExactDiskOk", unfollowed := true, recurses := true, apart := false }
def FnExactDiskOkSaid : Prop := fnExactDiskOkRow.holds Try.pinned (OpenSpec.ofChange fnExactDiskOkSpec)

/-- ITS FALSE NEIGHBOUR: 'it returns false'. Refute it at one input. -/
def fnExactDiskOkWrong : ChangeSpec := { name := "fnExactDiskOk", fn := fun _ => fun
  | [d] => { results := [.lit (.bool false)], args := [d] }
  | _ => none }
def FnExactDiskOkWrongFalsely : Prop := fnExactDiskOkRow.holds Try.pinned (OpenSpec.ofChange fnExactDiskOkWrong)

/- THE SECOND FORM. 'bulk': how many values and letters a reading holds, each counted each time it is reached (what is shared counts as often as it is met; a slice's spare places count too). A statement '..UptoSaid' is the law's where the arguments, and the package variables that the reading takes, are together of bulk at most 1048576: NARROWER than '..Said'. Prove '..Said' where nothing that the law and all that it calls make is longer than what came in: it says more and counts as full. Else prove '..UptoSaid'. A law counts once. -/
mutual
def uptoBulk {H : Type} : DataW H → Nat
  | .lit (.string bytes) => bytes.length + 1
  | .lit _ => 1
  | .nil => 1
  | .ptr d => uptoBulk d + 1
  | .slice elems spare => uptoBulkAll elems + uptoBulkAll spare + 1
  | .agg parts => uptoBulkAll parts + 1
  | .iface _ d => uptoBulk d + 1
  | .map entries => uptoBulkEntries entries + 1
  | .held _ => 1
def uptoBulkAll {H : Type} : List (DataW H) → Nat
  | [] => 0
  | d :: r => uptoBulk d + uptoBulkAll r
def uptoBulkEntries {H : Type} : List (Lit × DataW H) → Nat
  | [] => 0
  | x :: r => uptoBulkEntry x + uptoBulkEntries r
def uptoBulkEntry {H : Type} : Lit × DataW H → Nat
  | (.string bytes, d) => bytes.length + uptoBulk d + 1
  | (_, d) => uptoBulk d + 1
 end
def uptoSmall : (H : Type) → List (DataW H) → Bool := fun _ ds => decide (uptoBulkAll ds ≤ 1048576)
def OpenSpec.upto (s : _root_.Go.ChangeSpec) : _root_.Go.OpenSpec := { _root_.Go.OpenSpec.ofChange s with cond := some uptoSmall }

/-- 'laws.FnExactConstants', WHERE WHAT IT READS IS OF BULK AT MOST 1048576: true; the input reads as it did. -/
def fnExactConstantsUptoRow : OpenClaim := { program := "ytahbndcmnpiejaa", sum := "ab2a5401183a46499a7d5b77ee3f60197381050aa0232775d3164ba5e6d29b3b", func := "loop.example/palim/laws.FnExactConstants", spec := "fnExactConstants", apart := false, narrowed := true }
def FnExactConstantsUptoSaid : Prop := fnExactConstantsUptoRow.holds Try.pinned (OpenSpec.upto fnExactConstantsSpec)

/-- 'laws.FnExactSumOf', WHERE WHAT IT READS IS OF BULK AT MOST 1048576: true; the input reads as it did. -/
def fnExactSumOfUptoRow : OpenClaim := { program := "ytahbndcmnpiejaa", sum := "ab2a5401183a46499a7d5b77ee3f60197381050aa0232775d3164ba5e6d29b3b", func := "loop.example/palim/laws.FnExactSumOf", spec := "fnExactSumOf", apart := false, narrowed := true }
def FnExactSumOfUptoSaid : Prop := fnExactSumOfUptoRow.holds Try.pinned (OpenSpec.upto fnExactSumOfSpec)

/-- 'laws.FnExactSumHex', WHERE WHAT IT READS IS OF BULK AT MOST 1048576: true; the input reads as it did. -/
def fnExactSumHexUptoRow : OpenClaim := { program := "ytahbndcmnpiejaa", sum := "ab2a5401183a46499a7d5b77ee3f60197381050aa0232775d3164ba5e6d29b3b", func := "loop.example/palim/laws.FnExactSumHex", spec := "fnExactSumHex", apart := false, narrowed := true }
def FnExactSumHexUptoSaid : Prop := fnExactSumHexUptoRow.holds Try.pinned (OpenSpec.upto fnExactSumHexSpec)

/-- 'laws.FnExactPtrOk', WHERE WHAT IT READS IS OF BULK AT MOST 1048576: true; the input reads as it did. -/
def fnExactPtrOkUptoRow : OpenClaim := { program := "ytahbndcmnpiejaa", sum := "ab2a5401183a46499a7d5b77ee3f60197381050aa0232775d3164ba5e6d29b3b", func := "loop.example/palim/laws.FnExactPtrOk", spec := "fnExactPtrOk", apart := false, narrowed := true }
def FnExactPtrOkUptoSaid : Prop := fnExactPtrOkUptoRow.holds Try.pinned (OpenSpec.upto fnExactPtrOkSpec)

/-- 'laws.FnExactSumUnhex', WHERE WHAT IT READS IS OF BULK AT MOST 1048576: true; the input reads as it did. -/
def fnExactSumUnhexUptoRow : OpenClaim := { program := "ytahbndcmnpiejaa", sum := "ab2a5401183a46499a7d5b77ee3f60197381050aa0232775d3164ba5e6d29b3b", func := "loop.example/palim/laws.FnExactSumUnhex", spec := "fnExactSumUnhex", inPlace := ["internal/bytealg.IndexByteString"], apart := false, narrowed := true }
def FnExactSumUnhexUptoSaid : Prop := fnExactSumUnhexUptoRow.holds Try.pinned (OpenSpec.upto fnExactSumUnhexSpec)

/-- 'laws.FnExactBlkTo', WHERE WHAT IT READS IS OF BULK AT MOST 1048576: true; the input reads as it did. -/
def fnExactBlkToUptoRow : OpenClaim := { program := "ytahbndcmnpiejaa", sum := "ab2a5401183a46499a7d5b77ee3f60197381050aa0232775d3164ba5e6d29b3b", func := "loop.example/palim/laws.FnExactBlkTo", spec := "fnExactBlkTo", apart := false, narrowed := true }
def FnExactBlkToUptoSaid : Prop := fnExactBlkToUptoRow.holds Try.pinned (OpenSpec.upto fnExactBlkToSpec)

/-- 'laws.FnExactDdtOk', WHERE WHAT IT READS IS OF BULK AT MOST 1048576: true; the input reads as it did. -/
def fnExactDdtOkUptoRow : OpenClaim := { program := "ytahbndcmnpiejaa", sum := "ab2a5401183a46499a7d5b77ee3f60197381050aa0232775d3164ba5e6d29b3b", func := "loop.example/palim/laws.FnExactDdtOk", spec := "fnExactDdtOk", apart := false, narrowed := true }
def FnExactDdtOkUptoSaid : Prop := fnExactDdtOkUptoRow.holds Try.pinned (OpenSpec.upto fnExactDdtOkSpec)

/-- 'laws.FnExactDdtCount', WHERE WHAT IT READS IS OF BULK AT MOST 1048576: true; the input reads as it did. -/
def fnExactDdtCountUptoRow : OpenClaim := { program := "ytahbndcmnpiejaa", sum := "ab2a5401183a46499a7d5b77ee3f60197381050aa0232775d3164ba5e6d29b3b", func := "loop.example/palim/laws.FnExactDdtCount", spec := "fnExactDdtCount", unfollowed := true, recurses := true, apart := false, narrowed := true }
def FnExactDdtCountUptoSaid : Prop := fnExactDdtCountUptoRow.holds Try.pinned (OpenSpec.upto fnExactDdtCountSpec)

/-- 'laws.FnExactBookSame', WHERE WHAT IT READS IS OF BULK AT MOST 1048576: true; the input reads as it did. -/
def fnExactBookSameUptoRow : OpenClaim := { program := "ytahbndcmnpiejaa", sum := "ab2a5401183a46499a7d5b77ee3f60197381050aa0232775d3164ba5e6d29b3b", func := "loop.example/palim/laws.FnExactBookSame", spec := "fnExactBookSame", apart := false, narrowed := true }
def FnExactBookSameUptoSaid : Prop := fnExactBookSameUptoRow.holds Try.pinned (OpenSpec.upto fnExactBookSameSpec)

/-- 'laws.FnExactDiskOpen', WHERE WHAT IT READS IS OF BULK AT MOST 1048576: true; the input reads as it did. -/
def fnExactDiskOpenUptoRow : OpenClaim := { program := "ytahbndcmnpiejaa", sum := "ab2a5401183a46499a7d5b77ee3f60197381050aa0232775d3164ba5e6d29b3b", func := "loop.example/palim/laws.FnExactDiskOpen", spec := "fnExactDiskOpen", apart := false, narrowed := true }
def FnExactDiskOpenUptoSaid : Prop := fnExactDiskOpenUptoRow.holds Try.pinned (OpenSpec.upto fnExactDiskOpenSpec)

/-- 'laws.FnExactDiskSame', WHERE WHAT IT READS IS OF BULK AT MOST 1048576: true; the input reads as it did. -/
def fnExactDiskSameUptoRow : OpenClaim := { program := "ytahbndcmnpiejaa", sum := "ab2a5401183a46499a7d5b77ee3f60197381050aa0232775d3164ba5e6d29b3b", func := "loop.example/palim/laws.FnExactDiskSame", spec := "fnExactDiskSame", apart := false, narrowed := true }
def FnExactDiskSameUptoSaid : Prop := fnExactDiskSameUptoRow.holds Try.pinned (OpenSpec.upto fnExactDiskSameSpec)

/-- 'laws.FnExactDiskOk', WHERE WHAT IT READS IS OF BULK AT MOST 1048576: true; the input reads as it did. -/
def fnExactDiskOkUptoRow : OpenClaim := { program := "ytahbndcmnpiejaa", sum := "ab2a5401183a46499a7d5b77ee3f60197381050aa0232775d3164ba5e6d29b3b", func := "loop.example/palim/laws.FnExactDiskOk", spec := "fnExactDiskOk", unfollowed := true, recurses := true, apart := false, narrowed := true }
def FnExactDiskOkUptoSaid : Prop := fnExactDiskOkUptoRow.holds Try.pinned (OpenSpec.upto fnExactDiskOkSpec)

end Rows
end Go.Proofs.Ytahbndcmnpiejaa

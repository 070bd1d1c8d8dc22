/-
  No cell of these rows narrows 'for every input' (looked for: loops, veiled, ifaces, maps, wideKeys, modest, calm, conditions, laid).
  DERIVED. THE GIVEN ROWS OF THIS SEAT. 15 by the template 'for every input the law returns true; each argument reads behind the call as it read before'; 0 by the template 'total and deterministic' (their statements: YtjhjhkphcemcmaaTotals.lean).
  GIVEN WITH THE SEED: the statements are not yours to turn. If you find one false, say at which input.
  Laid BY PROGRAM, IN A SANDBOX (cutbox-rows.mjs): the forced cells as the released guide's own fill.sh prints them over the translation f67a2e8bb1e86aba… (all of the seat's roots in one cut). By AI agents, Wed Nov 11 2026. No macro, syntax, notation, axiom, sorry.
-/
import Derived.Test.YtjhjhkphcemcmaaChecked
import GoSem.Claim
import GoSem.ClaimJoined
import GoSem.ClaimMapViews
import Derived.JoinedTies
import Derived.KernelRfl
namespace Go.Proofs.Ytjhjhkphcemcmaa
/- THE CELL 'sum', in the pinned program and in every row, IS THE sha256 OF THE DUMP (.gsa) THAT YtjhjhkphcemcmaaProg.lean LOADS. Nothing in Lean hashes anything: it is a label: what it is worth is what the hold of that sum in a sandbox is worth. -/
noncomputable def Try.pinned : Pinned := { name := "ytjhjhkphcemcmaa", sum := "f67a2e8bb1e86aba152194c4a794dc2ae9d211c6069fb2ea782de35e2cf0b0d4", checked := Try.checked }
namespace Rows
def none {H : Type} : Left H := { results := [], args := [] }

/-- 'laws.FnExactPtrOk': WHATEVER THE INPUT: true; the input reads as it did. -/
def fnExactPtrOkSpec : ChangeSpec := { name := "fnExactPtrOk", fn := fun _ => fun
  | [d] => { results := [.lit (.bool true)], args := [d] }
  | _ => none }
def fnExactPtrOkRow : OpenClaim := { program := "ytjhjhkphcemcmaa", sum := "f67a2e8bb1e86aba152194c4a794dc2ae9d211c6069fb2ea782de35e2cf0b0d4", func := "loop.example/palim/laws.FnExactPtrOk", spec := "fnExactPtrOk", apart := false }
def FnExactPtrOkSaid : Prop := fnExactPtrOkRow.holds Try.pinned (OpenSpec.ofChange fnExactPtrOkSpec)

/-- ITS FALSE NEIGHBOUR: 'it returns false'. Refute it at one input. -/
def fnExactPtrOkWrong : ChangeSpec := { name := "fnExactPtrOk", fn := fun _ => fun
  | [d] => { results := [.lit (.bool false)], args := [d] }
  | _ => none }
def FnExactPtrOkWrongFalsely : Prop := fnExactPtrOkRow.holds Try.pinned (OpenSpec.ofChange fnExactPtrOkWrong)

/-- 'laws.FnExactSumUnhex': WHATEVER THE INPUT: true; the input reads as it did. -/
def fnExactSumUnhexSpec : ChangeSpec := { name := "fnExactSumUnhex", fn := fun _ => fun
  | [d] => { results := [.lit (.bool true)], args := [d] }
  | _ => none }
def fnExactSumUnhexRow : OpenClaim := { program := "ytjhjhkphcemcmaa", sum := "f67a2e8bb1e86aba152194c4a794dc2ae9d211c6069fb2ea782de35e2cf0b0d4", func := "loop.example/palim/laws.FnExactSumUnhex", spec := "fnExactSumUnhex", inPlace := ["internal/bytealg.IndexByteString"], apart := false }
def FnExactSumUnhexSaid : Prop := fnExactSumUnhexRow.holds Try.pinned (OpenSpec.ofChange fnExactSumUnhexSpec)

/-- ITS FALSE NEIGHBOUR: 'it returns false'. Refute it at one input. -/
def fnExactSumUnhexWrong : ChangeSpec := { name := "fnExactSumUnhex", fn := fun _ => fun
  | [d] => { results := [.lit (.bool false)], args := [d] }
  | _ => none }
def FnExactSumUnhexWrongFalsely : Prop := fnExactSumUnhexRow.holds Try.pinned (OpenSpec.ofChange fnExactSumUnhexWrong)

/-- 'laws.FnExactDdtOk': WHATEVER THE INPUT: true; the input reads as it did. -/
def fnExactDdtOkSpec : ChangeSpec := { name := "fnExactDdtOk", fn := fun _ => fun
  | [d] => { results := [.lit (.bool true)], args := [d] }
  | _ => none }
def fnExactDdtOkRow : OpenClaim := { program := "ytjhjhkphcemcmaa", sum := "f67a2e8bb1e86aba152194c4a794dc2ae9d211c6069fb2ea782de35e2cf0b0d4", func := "loop.example/palim/laws.FnExactDdtOk", spec := "fnExactDdtOk", apart := false }
def FnExactDdtOkSaid : Prop := fnExactDdtOkRow.holds Try.pinned (OpenSpec.ofChange fnExactDdtOkSpec)

/-- ITS FALSE NEIGHBOUR: 'it returns false'. Refute it at one input. -/
def fnExactDdtOkWrong : ChangeSpec := { name := "fnExactDdtOk", fn := fun _ => fun
  | [d] => { results := [.lit (.bool false)], args := [d] }
  | _ => none }
def FnExactDdtOkWrongFalsely : Prop := fnExactDdtOkRow.holds Try.pinned (OpenSpec.ofChange fnExactDdtOkWrong)

/-- 'laws.FnExactDdtCount': WHATEVER THE INPUT: true; the input reads as it did. -/
def fnExactDdtCountSpec : ChangeSpec := { name := "fnExactDdtCount", fn := fun _ => fun
  | [d1, d2] => { results := [.lit (.bool true)], args := [d1, d2] }
  | _ => none }
def fnExactDdtCountRow : OpenClaim := { program := "ytjhjhkphcemcmaa", sum := "f67a2e8bb1e86aba152194c4a794dc2ae9d211c6069fb2ea782de35e2cf0b0d4", func := "loop.example/palim/laws.FnExactDdtCount", spec := "fnExactDdtCount", unfollowed := true, recurses := true, apart := false }
def FnExactDdtCountSaid : Prop := fnExactDdtCountRow.holds Try.pinned (OpenSpec.ofChange fnExactDdtCountSpec)

/-- ITS FALSE NEIGHBOUR: 'it returns false'. Refute it at one input. -/
def fnExactDdtCountWrong : ChangeSpec := { name := "fnExactDdtCount", fn := fun _ => fun
  | [d1, d2] => { results := [.lit (.bool false)], args := [d1, d2] }
  | _ => none }
def FnExactDdtCountWrongFalsely : Prop := fnExactDdtCountRow.holds Try.pinned (OpenSpec.ofChange fnExactDdtCountWrong)

/-- 'laws.FnExactBookSame': WHATEVER THE INPUT: true; the input reads as it did. -/
def fnExactBookSameSpec : ChangeSpec := { name := "fnExactBookSame", fn := fun _ => fun
  | [d1, d2] => { results := [.lit (.bool true)], args := [d1, d2] }
  | _ => none }
def fnExactBookSameRow : OpenClaim := { program := "ytjhjhkphcemcmaa", sum := "f67a2e8bb1e86aba152194c4a794dc2ae9d211c6069fb2ea782de35e2cf0b0d4", func := "loop.example/palim/laws.FnExactBookSame", spec := "fnExactBookSame", apart := false }
def FnExactBookSameSaid : Prop := fnExactBookSameRow.holds Try.pinned (OpenSpec.ofChange fnExactBookSameSpec)

/-- ITS FALSE NEIGHBOUR: 'it returns false'. Refute it at one input. -/
def fnExactBookSameWrong : ChangeSpec := { name := "fnExactBookSame", fn := fun _ => fun
  | [d1, d2] => { results := [.lit (.bool false)], args := [d1, d2] }
  | _ => none }
def FnExactBookSameWrongFalsely : Prop := fnExactBookSameRow.holds Try.pinned (OpenSpec.ofChange fnExactBookSameWrong)

/-- 'laws.FnExactDiskOpen': WHATEVER THE INPUT: true; the input reads as it did. -/
def fnExactDiskOpenSpec : ChangeSpec := { name := "fnExactDiskOpen", fn := fun _ => fun
  | [d] => { results := [.lit (.bool true)], args := [d] }
  | _ => none }
def fnExactDiskOpenRow : OpenClaim := { program := "ytjhjhkphcemcmaa", sum := "f67a2e8bb1e86aba152194c4a794dc2ae9d211c6069fb2ea782de35e2cf0b0d4", func := "loop.example/palim/laws.FnExactDiskOpen", spec := "fnExactDiskOpen", apart := false }
def FnExactDiskOpenSaid : Prop := fnExactDiskOpenRow.holds Try.pinned (OpenSpec.ofChange fnExactDiskOpenSpec)

/-- ITS FALSE NEIGHBOUR: 'it returns false'. Refute it at one input. -/
def fnExactDiskOpenWrong : ChangeSpec := { name := "fnExactDiskOpen", fn := fun _ => fun
  | [d] => { results := [.lit (.bool false)], args := [d] }
  | _ => none }
def FnExactDiskOpenWrongFalsely : Prop := fnExactDiskOpenRow.holds Try.pinned (OpenSpec.ofChange fnExactDiskOpenWrong)

/-- 'laws.FnExactDiskSame': WHATEVER THE INPUT: true; the input reads as it did. -/
def fnExactDiskSameSpec : ChangeSpec := { name := "fnExactDiskSame", fn := fun _ => fun
  | [d1, d2] => { results := [.lit (.bool true)], args := [d1, d2] }
  | _ => none }
def fnExactDiskSameRow : OpenClaim := { program := "ytjhjhkphcemcmaa", sum := "f67a2e8bb1e86aba152194c4a794dc2ae9d211c6069fb2ea782de35e2cf0b0d4", func := "loop.example/palim/laws.FnExactDiskSame", spec := "fnExactDiskSame", apart := false }
def FnExactDiskSameSaid : Prop := fnExactDiskSameRow.holds Try.pinned (OpenSpec.ofChange fnExactDiskSameSpec)

/-- ITS FALSE NEIGHBOUR: 'it returns false'. Refute it at one input. -/
def fnExactDiskSameWrong : ChangeSpec := { name := "fnExactDiskSame", fn := fun _ => fun
  | [d1, d2] => { results := [.lit (.bool false)], args := [d1, d2] }
  | _ => none }
def FnExactDiskSameWrongFalsely : Prop := fnExactDiskSameRow.holds Try.pinned (OpenSpec.ofChange fnExactDiskSameWrong)

/-- 'laws.FnExactDiskOk': WHATEVER THE INPUT: true; the input reads as it did. -/
def fnExactDiskOkSpec : ChangeSpec := { name := "fnExactDiskOk", fn := fun _ => fun
  | [d] => { results := [.lit (.bool true)], args := [d] }
  | _ => none }
def fnExactDiskOkRow : OpenClaim := { program := "ytjhjhkphcemcmaa", sum := "f67a2e8bb1e86aba152194c4a794dc2ae9d211c6069fb2ea782de35e2cf0b0d4", func := "loop.example/palim/laws.FnExactDiskOk", spec := "fnExactDiskOk", unfollowed := true, recurses := true, apart := false }
def FnExactDiskOkSaid : Prop := fnExactDiskOkRow.holds Try.pinned (OpenSpec.ofChange fnExactDiskOkSpec)

/-- ITS FALSE NEIGHBOUR: 'it returns false'. Refute it at one input. -/
def fnExactDiskOkWrong : ChangeSpec := { name := "fnExactDiskOk", fn := fun _ => fun
  | [d] => { results := [.lit (.bool false)], args := [d] }
  | _ => none }
def FnExactDiskOkWrongFalsely : Prop := fnExactDiskOkRow.holds Try.pinned (OpenSpec.ofChange fnExactDiskOkWrong)

/-- 'laws.FnExactDdtDrop': WHATEVER THE INPUT: true; the input reads as it did. -/
def fnExactDdtDropSpec : ChangeSpec := { name := "fnExactDdtDrop", fn := fun _ => fun
  | [d1, d2] => { results := [.lit (.bool true)], args := [d1, d2] }
  | _ => none }
def fnExactDdtDropRow : OpenClaim := { program := "ytjhjhkphcemcmaa", sum := "f67a2e8bb1e86aba152194c4a794dc2ae9d211c6069fb2ea782de35e2cf0b0d4", func := "loop.example/palim/laws.FnExactDdtDrop", spec := "fnExactDdtDrop", unfollowed := true, recurses := true, apart := false }
def FnExactDdtDropSaid : Prop := fnExactDdtDropRow.holds Try.pinned (OpenSpec.ofChange fnExactDdtDropSpec)

/-- ITS FALSE NEIGHBOUR: 'it returns false'. Refute it at one input. -/
def fnExactDdtDropWrong : ChangeSpec := { name := "fnExactDdtDrop", fn := fun _ => fun
  | [d1, d2] => { results := [.lit (.bool false)], args := [d1, d2] }
  | _ => none }
def FnExactDdtDropWrongFalsely : Prop := fnExactDdtDropRow.holds Try.pinned (OpenSpec.ofChange fnExactDdtDropWrong)

/-- 'laws.FnExactDiskRead': WHATEVER THE INPUT: true; the input reads as it did. -/
def fnExactDiskReadSpec : ChangeSpec := { name := "fnExactDiskRead", fn := fun _ => fun
  | [d1, d2, d3] => { results := [.lit (.bool true)], args := [d1, d2, d3] }
  | _ => none }
def fnExactDiskReadRow : OpenClaim := { program := "ytjhjhkphcemcmaa", sum := "f67a2e8bb1e86aba152194c4a794dc2ae9d211c6069fb2ea782de35e2cf0b0d4", func := "loop.example/palim/laws.FnExactDiskRead", spec := "fnExactDiskRead", unfollowed := true, recurses := true, apart := false }
def FnExactDiskReadSaid : Prop := fnExactDiskReadRow.holds Try.pinned (OpenSpec.ofChange fnExactDiskReadSpec)

/-- ITS FALSE NEIGHBOUR: 'it returns false'. Refute it at one input. -/
def fnExactDiskReadWrong : ChangeSpec := { name := "fnExactDiskRead", fn := fun _ => fun
  | [d1, d2, d3] => { results := [.lit (.bool false)], args := [d1, d2, d3] }
  | _ => none }
def FnExactDiskReadWrongFalsely : Prop := fnExactDiskReadRow.holds Try.pinned (OpenSpec.ofChange fnExactDiskReadWrong)

/-- 'laws.FnExactBlkSide': WHATEVER THE INPUT: true; the input reads as it did. -/
def fnExactBlkSideSpec : ChangeSpec := { name := "fnExactBlkSide", fn := fun _ => fun
  | [d1, d2, d3] => { results := [.lit (.bool true)], args := [d1, d2, d3] }
  | _ => none }
def fnExactBlkSideRow : OpenClaim := { program := "ytjhjhkphcemcmaa", sum := "f67a2e8bb1e86aba152194c4a794dc2ae9d211c6069fb2ea782de35e2cf0b0d4", func := "loop.example/palim/laws.FnExactBlkSide", spec := "fnExactBlkSide", unfollowed := true, recurses := true, apart := false }
def FnExactBlkSideSaid : Prop := fnExactBlkSideRow.holds Try.pinned (OpenSpec.ofChange fnExactBlkSideSpec)

/-- ITS FALSE NEIGHBOUR: 'it returns false'. Refute it at one input. -/
def fnExactBlkSideWrong : ChangeSpec := { name := "fnExactBlkSide", fn := fun _ => fun
  | [d1, d2, d3] => { results := [.lit (.bool false)], args := [d1, d2, d3] }
  | _ => none }
def FnExactBlkSideWrongFalsely : Prop := fnExactBlkSideRow.holds Try.pinned (OpenSpec.ofChange fnExactBlkSideWrong)

/-- 'laws.FnExactBlkRead': WHATEVER THE INPUT: true; the input reads as it did. -/
def fnExactBlkReadSpec : ChangeSpec := { name := "fnExactBlkRead", fn := fun _ => fun
  | [d1, d2] => { results := [.lit (.bool true)], args := [d1, d2] }
  | _ => none }
def fnExactBlkReadRow : OpenClaim := { program := "ytjhjhkphcemcmaa", sum := "f67a2e8bb1e86aba152194c4a794dc2ae9d211c6069fb2ea782de35e2cf0b0d4", func := "loop.example/palim/laws.FnExactBlkRead", spec := "fnExactBlkRead", unfollowed := true, recurses := true, apart := false }
def FnExactBlkReadSaid : Prop := fnExactBlkReadRow.holds Try.pinned (OpenSpec.ofChange fnExactBlkReadSpec)

/-- ITS FALSE NEIGHBOUR: 'it returns false'. Refute it at one input. -/
def fnExactBlkReadWrong : ChangeSpec := { name := "fnExactBlkRead", fn := fun _ => fun
  | [d1, d2] => { results := [.lit (.bool false)], args := [d1, d2] }
  | _ => none }
def FnExactBlkReadWrongFalsely : Prop := fnExactBlkReadRow.holds Try.pinned (OpenSpec.ofChange fnExactBlkReadWrong)

/-- 'laws.FnExactDdtAdd': WHATEVER THE INPUT: true; the input reads as it did. -/
def fnExactDdtAddSpec : ChangeSpec := { name := "fnExactDdtAdd", fn := fun _ => fun
  | [d1, d2, d3] => { results := [.lit (.bool true)], args := [d1, d2, d3] }
  | _ => none }
def fnExactDdtAddRow : OpenClaim := { program := "ytjhjhkphcemcmaa", sum := "f67a2e8bb1e86aba152194c4a794dc2ae9d211c6069fb2ea782de35e2cf0b0d4", func := "loop.example/palim/laws.FnExactDdtAdd", spec := "fnExactDdtAdd", inPlace := ["slices.overlaps[loop.example/palim/impl.DdtEntry]"], unfollowed := true, recurses := true, apart := false }
def FnExactDdtAddSaid : Prop := fnExactDdtAddRow.holds Try.pinned (OpenSpec.ofChange fnExactDdtAddSpec)

/-- ITS FALSE NEIGHBOUR: 'it returns false'. Refute it at one input. -/
def fnExactDdtAddWrong : ChangeSpec := { name := "fnExactDdtAdd", fn := fun _ => fun
  | [d1, d2, d3] => { results := [.lit (.bool false)], args := [d1, d2, d3] }
  | _ => none }
def FnExactDdtAddWrongFalsely : Prop := fnExactDdtAddRow.holds Try.pinned (OpenSpec.ofChange fnExactDdtAddWrong)

/-- 'laws.FnExactCoreSame': WHATEVER THE INPUT: true; the input reads as it did. -/
def fnExactCoreSameSpec : ChangeSpec := { name := "fnExactCoreSame", fn := fun _ => fun
  | [d1, d2] => { results := [.lit (.bool true)], args := [d1, d2] }
  | _ => none }
def fnExactCoreSameRow : OpenClaim := { program := "ytjhjhkphcemcmaa", sum := "f67a2e8bb1e86aba152194c4a794dc2ae9d211c6069fb2ea782de35e2cf0b0d4", func := "loop.example/palim/laws.FnExactCoreSame", spec := "fnExactCoreSame", apart := false }
def FnExactCoreSameSaid : Prop := fnExactCoreSameRow.holds Try.pinned (OpenSpec.ofChange fnExactCoreSameSpec)

/-- ITS FALSE NEIGHBOUR: 'it returns false'. Refute it at one input. -/
def fnExactCoreSameWrong : ChangeSpec := { name := "fnExactCoreSame", fn := fun _ => fun
  | [d1, d2] => { results := [.lit (.bool false)], args := [d1, d2] }
  | _ => none }
def FnExactCoreSameWrongFalsely : Prop := fnExactCoreSameRow.holds Try.pinned (OpenSpec.ofChange fnExactCoreSameWrong)

/-- 'laws.FnExactDdtFind': WHATEVER THE INPUT: true; the input reads as it did. -/
def fnExactDdtFindSpec : ChangeSpec := { name := "fnExactDdtFind", fn := fun _ => fun
  | [d1, d2, d3] => { results := [.lit (.bool true)], args := [d1, d2, d3] }
  | _ => none }
def fnExactDdtFindRow : OpenClaim := { program := "ytjhjhkphcemcmaa", sum := "f67a2e8bb1e86aba152194c4a794dc2ae9d211c6069fb2ea782de35e2cf0b0d4", func := "loop.example/palim/laws.FnExactDdtFind", spec := "fnExactDdtFind", unfollowed := true, recurses := true, apart := false }
def FnExactDdtFindSaid : Prop := fnExactDdtFindRow.holds Try.pinned (OpenSpec.ofChange fnExactDdtFindSpec)

/-- ITS FALSE NEIGHBOUR: 'it returns false'. Refute it at one input. -/
def fnExactDdtFindWrong : ChangeSpec := { name := "fnExactDdtFind", fn := fun _ => fun
  | [d1, d2, d3] => { results := [.lit (.bool false)], args := [d1, d2, d3] }
  | _ => none }
def FnExactDdtFindWrongFalsely : Prop := fnExactDdtFindRow.holds Try.pinned (OpenSpec.ofChange fnExactDdtFindWrong)

/- THE SECOND FORM. 'bulk': how many values and letters a reading holds, each counted each time it is reached (what is shared counts as often as it is met; a slice's spare places count too). A statement '..UptoSaid' is the law's where the arguments, and the package variables that the reading takes, are together of bulk at most 1048576: NARROWER than '..Said'. Prove '..Said' where nothing that the law and all that it calls make is longer than what came in: it says more and counts as full. Else prove '..UptoSaid'. A law counts once. -/
mutual
def uptoBulk {H : Type} : DataW H → Nat
  | .lit (.string bytes) => bytes.length + 1
  | .lit _ => 1
  | .nil => 1
  | .ptr d => uptoBulk d + 1
  | .slice elems spare => uptoBulkAll elems + uptoBulkAll spare + 1
  | .agg parts => uptoBulkAll parts + 1
  | .iface _ d => uptoBulk d + 1
  | .map entries => uptoBulkEntries entries + 1
  | .held _ => 1
def uptoBulkAll {H : Type} : List (DataW H) → Nat
  | [] => 0
  | d :: r => uptoBulk d + uptoBulkAll r
def uptoBulkEntries {H : Type} : List (Lit × DataW H) → Nat
  | [] => 0
  | x :: r => uptoBulkEntry x + uptoBulkEntries r
def uptoBulkEntry {H : Type} : Lit × DataW H → Nat
  | (.string bytes, d) => bytes.length + uptoBulk d + 1
  | (_, d) => uptoBulk d + 1
 end
def uptoSmall : (H : Type) → List (DataW H) → Bool := fun _ ds => decide (uptoBulkAll ds ≤ 1048576)
def OpenSpec.upto (s : _root_.Go.ChangeSpec) : _root_.Go.OpenSpec := { _root_.Go.OpenSpec.ofChange s with cond := some uptoSmall }

/-- 'laws.FnExactPtrOk', WHERE WHAT IT READS IS OF BULK AT MOST 1048576: true; the input reads as it did. -/
def fnExactPtrOkUptoRow : OpenClaim := { program := "ytjhjhkphcemcmaa", sum := "f67a2e8bb1e86aba152194c4a794dc2ae9d211c6069fb2ea782de35e2cf0b0d4", func := "loop.example/palim/laws.FnExactPtrOk", spec := "fnExactPtrOk", apart := false, narrowed := true }
def FnExactPtrOkUptoSaid : Prop := fnExactPtrOkUptoRow.holds Try.pinned (OpenSpec.upto fnExactPtrOkSpec)

/-- 'laws.FnExactSumUnhex', WHERE WHAT IT READS IS OF BULK AT MOST 1048576: true; the input reads as it did. -/
def fnExactSumUnhexUptoRow : OpenClaim := { program := "ytjhjhkphcemcmaa", sum := "f67a2e8bb1e86aba152194c4a794dc2ae9d211c6069fb2ea782de35e2cf0b0d4", func := "loop.example/palim/laws.FnExactSumUnhex", spec := "fnExactSumUnhex", inPlace := ["internal/bytealg.IndexByteString"], apart := false, narrowed := true }
def FnExactSumUnhexUptoSaid : Prop := fnExactSumUnhexUptoRow.holds Try.pinned (OpenSpec.upto fnExactSumUnhexSpec)

/-- 'laws.FnExactDdtOk', WHERE WHAT IT READS IS OF BULK AT MOST 1048576: true; the input reads as it did. -/
def fnExactDdtOkUptoRow : OpenClaim := { program := "ytjhjhkphcemcmaa", sum := "f67a2e8bb1e86aba152194c4a794dc2ae9d211c6069fb2ea782de35e2cf0b0d4", func := "loop.example/palim/laws.FnExactDdtOk", spec := "fnExactDdtOk", apart := false, narrowed := true }
def FnExactDdtOkUptoSaid : Prop := fnExactDdtOkUptoRow.holds Try.pinned (OpenSpec.upto fnExactDdtOkSpec)

/-- 'laws.FnExactDdtCount', WHERE WHAT IT READS IS OF BULK AT MOST 1048576: true; the input reads as it did. -/
def fnExactDdtCountUptoRow : OpenClaim := { program := "ytjhjhkphcemcmaa", sum := "f67a2e8bb1e86aba152194c4a794dc2ae9d211c6069fb2ea782de35e2cf0b0d4", func := "loop.example/palim/laws.FnExactDdtCount", spec := "fnExactDdtCount", unfollowed := true, recurses := true, apart := false, narrowed := true }
def FnExactDdtCountUptoSaid : Prop := fnExactDdtCountUptoRow.holds Try.pinned (OpenSpec.upto fnExactDdtCountSpec)

/-- 'laws.FnExactBookSame', WHERE WHAT IT READS IS OF BULK AT MOST 1048576: true; the input reads as it did. -/
def fnExactBookSameUptoRow : OpenClaim := { program := "ytjhjhkphcemcmaa", sum := "f67a2e8bb1e86aba152194c4a794dc2ae9d211c6069fb2ea782de35e2cf0b0d4", func := "loop.example/palim/laws.FnExactBookSame", spec := "fnExactBookSame", apart := false, narrowed := true }
def FnExactBookSameUptoSaid : Prop := fnExactBookSameUptoRow.holds Try.pinned (OpenSpec.upto fnExactBookSameSpec)

/-- 'laws.FnExactDiskOpen', WHERE WHAT IT READS IS OF BULK AT MOST 1048576: true; the input reads as it did. -/
def fnExactDiskOpenUptoRow : OpenClaim := { program := "ytjhjhkphcemcmaa", sum := "f67a2e8bb1e86aba152194c4a794dc2ae9d211c6069fb2ea782de35e2cf0b0d4", func := "loop.example/palim/laws.FnExactDiskOpen", spec := "fnExactDiskOpen", apart := false, narrowed := true }
def FnExactDiskOpenUptoSaid : Prop := fnExactDiskOpenUptoRow.holds Try.pinned (OpenSpec.upto fnExactDiskOpenSpec)

/-- 'laws.FnExactDiskSame', WHERE WHAT IT READS IS OF BULK AT MOST 1048576: true; the input reads as it did. -/
def fnExactDiskSameUptoRow : OpenClaim := { program := "ytjhjhkphcemcmaa", sum := "f67a2e8bb1e86aba152194c4a794dc2ae9d211c6069fb2ea782de35e2cf0b0d4", func := "loop.example/palim/laws.FnExactDiskSame", spec := "fnExactDiskSame", apart := false, narrowed := true }
def FnExactDiskSameUptoSaid : Prop := fnExactDiskSameUptoRow.holds Try.pinned (OpenSpec.upto fnExactDiskSameSpec)

/-- 'laws.FnExactDiskOk', WHERE WHAT IT READS IS OF BULK AT MOST 1048576: true; the input reads as it did. -/
def fnExactDiskOkUptoRow : OpenClaim := { program := "ytjhjhkphcemcmaa", sum := "f67a2e8bb1e86aba152194c4a794dc2ae9d211c6069fb2ea782de35e2cf0b0d4", func := "loop.example/palim/laws.FnExactDiskOk", spec := "fnExactDiskOk", unfollowed := true, recurses := true, apart := false, narrowed := true }
def FnExactDiskOkUptoSaid : Prop := fnExactDiskOkUptoRow.holds Try.pinned (OpenSpec.upto fnExactDiskOkSpec)

/-- 'laws.FnExactDdtDrop', WHERE WHAT IT READS IS OF BULK AT MOST 1048576: true; the input reads as it did. -/
def fnExactDdtDropUptoRow : OpenClaim := { program := "ytjhjhkphcemcmaa", sum := "f67a2e8bb1e86aba152194c4a794dc2ae9d211c6069fb2ea782de35e2cf0b0d4", func := "loop.example/palim/laws.FnExactDdtDrop", spec := "fnExactDdtDrop", unfollowed := true, recurses := true, apart := false, narrowed := true }
def FnExactDdtDropUptoSaid : Prop := fnExactDdtDropUptoRow.holds Try.pinned (OpenSpec.upto fnExactDdtDropSpec)

/-- 'laws.FnExactDiskRead', WHERE WHAT IT READS IS OF BULK AT MOST 1048576: true; the input reads as it did. -/
def fnExactDiskReadUptoRow : OpenClaim := { program := "ytjhjhkphcemcmaa", sum := "f67a2e8bb1e86aba152194c4a794dc2ae9d211c6069fb2ea782de35e2cf0b0d4", func := "loop.example/palim/laws.FnExactDiskRead", spec := "fnExactDiskRead", unfollowed := true, recurses := true, apart := false, narrowed := true }
def FnExactDiskReadUptoSaid : Prop := fnExactDiskReadUptoRow.holds Try.pinned (OpenSpec.upto fnExactDiskReadSpec)

/-- 'laws.FnExactBlkSide', WHERE WHAT IT READS IS OF BULK AT MOST 1048576: true; the input reads as it did. -/
def fnExactBlkSideUptoRow : OpenClaim := { program := "ytjhjhkphcemcmaa", sum := "f67a2e8bb1e86aba152194c4a794dc2ae9d211c6069fb2ea782de35e2cf0b0d4", func := "loop.example/palim/laws.FnExactBlkSide", spec := "fnExactBlkSide", unfollowed := true, recurses := true, apart := false, narrowed := true }
def FnExactBlkSideUptoSaid : Prop := fnExactBlkSideUptoRow.holds Try.pinned (OpenSpec.upto fnExactBlkSideSpec)

/-- 'laws.FnExactBlkRead', WHERE WHAT IT READS IS OF BULK AT MOST 1048576: true; the input reads as it did. -/
def fnExactBlkReadUptoRow : OpenClaim := { program := "ytjhjhkphcemcmaa", sum := "f67a2e8bb1e86aba152194c4a794dc2ae9d211c6069fb2ea782de35e2cf0b0d4", func := "loop.example/palim/laws.FnExactBlkRead", spec := "fnExactBlkRead", unfollowed := true, recurses := true, apart := false, narrowed := true }
def FnExactBlkReadUptoSaid : Prop := fnExactBlkReadUptoRow.holds Try.pinned (OpenSpec.upto fnExactBlkReadSpec)

/-- 'laws.FnExactDdtAdd', WHERE WHAT IT READS IS OF BULK AT MOST 1048576: true; the input reads as it did. -/
def fnExactDdtAddUptoRow : OpenClaim := { program := "ytjhjhkphcemcmaa", sum := "f67a2e8bb1e86aba152194c4a794dc2ae9d211c6069fb2ea782de35e2cf0b0d4", func := "loop.example/palim/laws.FnExactDdtAdd", spec := "fnExactDdtAdd", inPlace := ["slices.overlaps[loop.example/palim/impl.DdtEntry]"], unfollowed := true, recurses := true, apart := false, narrowed := true }
def FnExactDdtAddUptoSaid : Prop := fnExactDdtAddUptoRow.holds Try.pinned (OpenSpec.upto fnExactDdtAddSpec)

/-- 'laws.FnExactCoreSame', WHERE WHAT IT READS IS OF BULK AT MOST 1048576: true; the input reads as it did. -/
def fnExactCoreSameUptoRow : OpenClaim := { program := "ytjhjhkphcemcmaa", sum := "f67a2e8bb1e86aba152194c4a794dc2ae9d211c6069fb2ea782de35e2cf0b0d4", func := "loop.example/palim/laws.FnExactCoreSame", spec := "fnExactCoreSame", apart := false, narrowed := true }
def FnExactCoreSameUptoSaid : Prop := fnExactCoreSameUptoRow.holds Try.pinned (OpenSpec.upto fnExactCoreSameSpec)

/-- 'laws.FnExactDdtFind', WHERE WHAT IT READS IS OF BULK AT MOST 1048576: true; the input reads as it did. -/
def fnExactDdtFindUptoRow : OpenClaim := { program := "ytjhjhkphcemcmaa", sum := "f67a2e8bb1e86aba152194c4a794dc2ae9d211c6069fb2ea782de35e2cf0b0d4", func := "loop.example/palim/laws.FnExactDdtFind", spec := "fnExactDdtFind", unfollowed := true, recurses := true, apart := false, narrowed := true }
def FnExactDdtFindUptoSaid : Prop := fnExactDdtFindUptoRow.holds Try.pinned (OpenSpec.upto fnExactDdtFindSpec)

end Rows
end Go.Proofs.Ytjhjhkphcemcmaa

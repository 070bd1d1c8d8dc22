/-
  NARROWER THAN 'FOR EVERY INPUT', by the rows' own cells (each row's printed sentence says how): FnExactSumSeal: laid · FnExactBookName: laid · FnExactPtrText: laid · FnExactCoreMap: laid · FnExactSumOpen: laid · FnExactCoreUber: laid · FnExactDdtText: laid · FnExactBookOk: laid · FnExactBookGet: laid · FnExactLogText: laid.
  DERIVED. THE GIVEN ROWS OF THIS SEAT. 10 by the template 'for every input the law returns true; each argument reads behind the call as it read before'; 0 by the template 'total and deterministic' (their statements: YtljilcingbohkaaDoorTotals.lean).
  GIVEN WITH THE SEED: the statements are not yours to turn. If you find one false, say at which input.
  Laid BY PROGRAM, IN A SANDBOX (cutbox-rows.mjs): the forced cells as the released guide's own fill.sh prints them over the translation aefa49a778ecf8b9… (all of the seat's roots in one cut). By AI agents, Wed Nov 11 2026. No macro, syntax, notation, axiom, sorry.
-/
import Derived.Test.YtljilcingbohkaaDoorChecked
import GoSem.PinnedTables
import GoSem.Claim
import GoSem.ClaimJoined
import GoSem.ClaimMapViews
import Derived.JoinedTies
import Derived.KernelRfl
namespace Go.Proofs.YtljilcingbohkaaDoor
/- THE CELL 'sum', in the pinned program and in every row, IS THE sha256 OF THE DUMP (.gsa) THAT YtljilcingbohkaaDoorProg.lean LOADS. Nothing in Lean hashes anything: it is a label: what it is worth is what the hold of that sum in a sandbox is worth. -/
noncomputable def Tryd.pinned : Pinned := { name := "ytljilcingbohkaadoor", sum := "aefa49a778ecf8b9f7823f23f1a0e8f9fd1233c46957815347648f33ad2aac48", checked := Tryd.checked }
namespace Rows
def none {H : Type} : Left H := { results := [], args := [] }

/- WHAT THE LISTED PACKAGE-LEVEL VARIABLES READ AS WHEN THE CALL BEGINS. Each datum BY PROGRAM (the guide's laid-datum.mjs) off the statement by which the dump's own 'gosem.cut.vars' lays the variable. In a bare row this is a premise. The card (YtljilcingbohkaaDoorCards.lean) ties it to the program's text. -/
def laid_math_bits_deBruijn32tab {H : Type} : DataW H := .agg [.lit (.int .u8 0), .lit (.int .u8 1), .lit (.int .u8 28), .lit (.int .u8 2), .lit (.int .u8 29), .lit (.int .u8 14), .lit (.int .u8 24), .lit (.int .u8 3), .lit (.int .u8 30), .lit (.int .u8 22), .lit (.int .u8 20), .lit (.int .u8 15), .lit (.int .u8 25), .lit (.int .u8 17), .lit (.int .u8 4), .lit (.int .u8 8), .lit (.int .u8 31), .lit (.int .u8 27), .lit (.int .u8 13), .lit (.int .u8 23), .lit (.int .u8 21), .lit (.int .u8 19), .lit (.int .u8 16), .lit (.int .u8 7), .lit (.int .u8 26), .lit (.int .u8 12), .lit (.int .u8 18), .lit (.int .u8 6), .lit (.int .u8 11), .lit (.int .u8 5), .lit (.int .u8 10), .lit (.int .u8 9)]
def laid_math_bits_deBruijn64tab {H : Type} : DataW H := .agg [.lit (.int .u8 0), .lit (.int .u8 1), .lit (.int .u8 56), .lit (.int .u8 2), .lit (.int .u8 57), .lit (.int .u8 49), .lit (.int .u8 28), .lit (.int .u8 3), .lit (.int .u8 61), .lit (.int .u8 58), .lit (.int .u8 42), .lit (.int .u8 50), .lit (.int .u8 38), .lit (.int .u8 29), .lit (.int .u8 17), .lit (.int .u8 4), .lit (.int .u8 62), .lit (.int .u8 47), .lit (.int .u8 59), .lit (.int .u8 36), .lit (.int .u8 45), .lit (.int .u8 43), .lit (.int .u8 51), .lit (.int .u8 22), .lit (.int .u8 53), .lit (.int .u8 39), .lit (.int .u8 33), .lit (.int .u8 30), .lit (.int .u8 24), .lit (.int .u8 18), .lit (.int .u8 12), .lit (.int .u8 5), .lit (.int .u8 63), .lit (.int .u8 55), .lit (.int .u8 48), .lit (.int .u8 27), .lit (.int .u8 60), .lit (.int .u8 41), .lit (.int .u8 37), .lit (.int .u8 16), .lit (.int .u8 46), .lit (.int .u8 35), .lit (.int .u8 44), .lit (.int .u8 21), .lit (.int .u8 52), .lit (.int .u8 32), .lit (.int .u8 23), .lit (.int .u8 11), .lit (.int .u8 54), .lit (.int .u8 26), .lit (.int .u8 40), .lit (.int .u8 15), .lit (.int .u8 34), .lit (.int .u8 20), .lit (.int .u8 31), .lit (.int .u8 10), .lit (.int .u8 25), .lit (.int .u8 14), .lit (.int .u8 19), .lit (.int .u8 9), .lit (.int .u8 13), .lit (.int .u8 8), .lit (.int .u8 7), .lit (.int .u8 6)]
def laid_internal_strconv_uint64pow10 {H : Type} : DataW H := .agg [.lit (.int .u64 1), .lit (.int .u64 10), .lit (.int .u64 100), .lit (.int .u64 1000), .lit (.int .u64 10000), .lit (.int .u64 100000), .lit (.int .u64 1000000), .lit (.int .u64 10000000), .lit (.int .u64 100000000), .lit (.int .u64 1000000000), .lit (.int .u64 10000000000), .lit (.int .u64 100000000000), .lit (.int .u64 1000000000000), .lit (.int .u64 10000000000000), .lit (.int .u64 100000000000000), .lit (.int .u64 1000000000000000), .lit (.int .u64 10000000000000000), .lit (.int .u64 100000000000000000), .lit (.int .u64 1000000000000000000), .lit (.int .u64 10000000000000000000)]
def laid_unicode_utf8_acceptRanges {H : Type} : DataW H := .agg [.agg [.lit (.int .u8 128), .lit (.int .u8 191)], .agg [.lit (.int .u8 160), .lit (.int .u8 191)], .agg [.lit (.int .u8 128), .lit (.int .u8 159)], .agg [.lit (.int .u8 144), .lit (.int .u8 191)], .agg [.lit (.int .u8 128), .lit (.int .u8 143)], .agg [.lit (.int .u8 0), .lit (.int .u8 0)], .agg [.lit (.int .u8 0), .lit (.int .u8 0)], .agg [.lit (.int .u8 0), .lit (.int .u8 0)], .agg [.lit (.int .u8 0), .lit (.int .u8 0)], .agg [.lit (.int .u8 0), .lit (.int .u8 0)], .agg [.lit (.int .u8 0), .lit (.int .u8 0)], .agg [.lit (.int .u8 0), .lit (.int .u8 0)], .agg [.lit (.int .u8 0), .lit (.int .u8 0)], .agg [.lit (.int .u8 0), .lit (.int .u8 0)], .agg [.lit (.int .u8 0), .lit (.int .u8 0)], .agg [.lit (.int .u8 0), .lit (.int .u8 0)]]
/-- One of Go's own tables, pinned by name: the form's constant. -/
def laid_unicode_utf8_first : DataW Unit := Go.Pinned.utf8First

/-- 'laws.FnExactSumSeal': WHATEVER THE INPUT: true; the input reads as it did. -/
def fnExactSumSealSpec : ChangeSpec := { name := "fnExactSumSeal", fn := fun _ => fun
  | [d] => { results := [.lit (.bool true)], args := [d] }
  | _ => none }
def fnExactSumSealRow : OpenClaim := { program := "ytljilcingbohkaadoor", sum := "aefa49a778ecf8b9f7823f23f1a0e8f9fd1233c46957815347648f33ad2aac48", func := "loop.example/palim/laws.FnExactSumSeal", spec := "fnExactSumSeal", recurses := true, named := ["internal/strconv.uint64pow10", "math/bits.deBruijn32tab", "math/bits.deBruijn64tab"], apart := false, laid := [("math/bits.deBruijn32tab", laid_math_bits_deBruijn32tab), ("math/bits.deBruijn64tab", laid_math_bits_deBruijn64tab), ("internal/strconv.uint64pow10", laid_internal_strconv_uint64pow10)] }
def FnExactSumSealSaid : Prop := fnExactSumSealRow.holds Tryd.pinned (OpenSpec.ofChange fnExactSumSealSpec)

/-- ITS FALSE NEIGHBOUR: 'it returns false'. Refute it at one input. -/
def fnExactSumSealWrong : ChangeSpec := { name := "fnExactSumSeal", fn := fun _ => fun
  | [d] => { results := [.lit (.bool false)], args := [d] }
  | _ => none }
def FnExactSumSealWrongFalsely : Prop := fnExactSumSealRow.holds Tryd.pinned (OpenSpec.ofChange fnExactSumSealWrong)

/-- 'laws.FnExactBookName': WHATEVER THE INPUT: true; the input reads as it did. -/
def fnExactBookNameSpec : ChangeSpec := { name := "fnExactBookName", fn := fun _ => fun
  | [d] => { results := [.lit (.bool true)], args := [d] }
  | _ => none }
def fnExactBookNameRow : OpenClaim := { program := "ytljilcingbohkaadoor", sum := "aefa49a778ecf8b9f7823f23f1a0e8f9fd1233c46957815347648f33ad2aac48", func := "loop.example/palim/laws.FnExactBookName", spec := "fnExactBookName", inPlace := ["internal/bytealg.IndexByteString", "internal/bytealg.IndexString"], named := ["unicode/utf8.first", "unicode/utf8.acceptRanges", "internal/bytealg.MaxLen"], apart := false, laid := [("unicode/utf8.acceptRanges", laid_unicode_utf8_acceptRanges), ("unicode/utf8.first", laid_unicode_utf8_first)] }
def FnExactBookNameSaid : Prop := fnExactBookNameRow.holds Tryd.pinned (OpenSpec.ofChange fnExactBookNameSpec)

/-- ITS FALSE NEIGHBOUR: 'it returns false'. Refute it at one input. -/
def fnExactBookNameWrong : ChangeSpec := { name := "fnExactBookName", fn := fun _ => fun
  | [d] => { results := [.lit (.bool false)], args := [d] }
  | _ => none }
def FnExactBookNameWrongFalsely : Prop := fnExactBookNameRow.holds Tryd.pinned (OpenSpec.ofChange fnExactBookNameWrong)

/-- 'laws.FnExactPtrText': WHATEVER THE INPUT: true; the input reads as it did. -/
def fnExactPtrTextSpec : ChangeSpec := { name := "fnExactPtrText", fn := fun _ => fun
  | [d] => { results := [.lit (.bool true)], args := [d] }
  | _ => none }
def fnExactPtrTextRow : OpenClaim := { program := "ytljilcingbohkaadoor", sum := "aefa49a778ecf8b9f7823f23f1a0e8f9fd1233c46957815347648f33ad2aac48", func := "loop.example/palim/laws.FnExactPtrText", spec := "fnExactPtrText", inPlace := ["internal/abi.NoEscape", "internal/bytealg.MakeNoZero"], recurses := true, named := ["internal/strconv.uint64pow10", "math/bits.deBruijn32tab", "math/bits.deBruijn64tab"], apart := false, laid := [("math/bits.deBruijn32tab", laid_math_bits_deBruijn32tab), ("math/bits.deBruijn64tab", laid_math_bits_deBruijn64tab), ("internal/strconv.uint64pow10", laid_internal_strconv_uint64pow10)] }
def FnExactPtrTextSaid : Prop := fnExactPtrTextRow.holds Tryd.pinned (OpenSpec.ofChange fnExactPtrTextSpec)

/-- ITS FALSE NEIGHBOUR: 'it returns false'. Refute it at one input. -/
def fnExactPtrTextWrong : ChangeSpec := { name := "fnExactPtrText", fn := fun _ => fun
  | [d] => { results := [.lit (.bool false)], args := [d] }
  | _ => none }
def FnExactPtrTextWrongFalsely : Prop := fnExactPtrTextRow.holds Tryd.pinned (OpenSpec.ofChange fnExactPtrTextWrong)

/-- 'laws.FnExactCoreMap': WHATEVER THE INPUT: true; the input reads as it did. -/
def fnExactCoreMapSpec : ChangeSpec := { name := "fnExactCoreMap", fn := fun _ => fun
  | [d] => { results := [.lit (.bool true)], args := [d] }
  | _ => none }
def fnExactCoreMapRow : OpenClaim := { program := "ytljilcingbohkaadoor", sum := "aefa49a778ecf8b9f7823f23f1a0e8f9fd1233c46957815347648f33ad2aac48", func := "loop.example/palim/laws.FnExactCoreMap", spec := "fnExactCoreMap", inPlace := ["internal/abi.NoEscape", "internal/bytealg.MakeNoZero"], recurses := true, named := ["internal/strconv.uint64pow10", "math/bits.deBruijn32tab", "math/bits.deBruijn64tab"], apart := false, laid := [("math/bits.deBruijn32tab", laid_math_bits_deBruijn32tab), ("math/bits.deBruijn64tab", laid_math_bits_deBruijn64tab), ("internal/strconv.uint64pow10", laid_internal_strconv_uint64pow10)] }
def FnExactCoreMapSaid : Prop := fnExactCoreMapRow.holds Tryd.pinned (OpenSpec.ofChange fnExactCoreMapSpec)

/-- ITS FALSE NEIGHBOUR: 'it returns false'. Refute it at one input. -/
def fnExactCoreMapWrong : ChangeSpec := { name := "fnExactCoreMap", fn := fun _ => fun
  | [d] => { results := [.lit (.bool false)], args := [d] }
  | _ => none }
def FnExactCoreMapWrongFalsely : Prop := fnExactCoreMapRow.holds Tryd.pinned (OpenSpec.ofChange fnExactCoreMapWrong)

/-- 'laws.FnExactSumOpen': WHATEVER THE INPUT: true; the input reads as it did. -/
def fnExactSumOpenSpec : ChangeSpec := { name := "fnExactSumOpen", fn := fun _ => fun
  | [d] => { results := [.lit (.bool true)], args := [d] }
  | _ => none }
def fnExactSumOpenRow : OpenClaim := { program := "ytljilcingbohkaadoor", sum := "aefa49a778ecf8b9f7823f23f1a0e8f9fd1233c46957815347648f33ad2aac48", func := "loop.example/palim/laws.FnExactSumOpen", spec := "fnExactSumOpen", inPlace := ["internal/bytealg.IndexByteString", "internal/bytealg.IndexString"], recurses := true, named := ["internal/bytealg.MaxLen", "internal/strconv.uint64pow10", "math/bits.deBruijn32tab", "math/bits.deBruijn64tab"], apart := false, laid := [("math/bits.deBruijn32tab", laid_math_bits_deBruijn32tab), ("math/bits.deBruijn64tab", laid_math_bits_deBruijn64tab), ("internal/strconv.uint64pow10", laid_internal_strconv_uint64pow10)] }
def FnExactSumOpenSaid : Prop := fnExactSumOpenRow.holds Tryd.pinned (OpenSpec.ofChange fnExactSumOpenSpec)

/-- ITS FALSE NEIGHBOUR: 'it returns false'. Refute it at one input. -/
def fnExactSumOpenWrong : ChangeSpec := { name := "fnExactSumOpen", fn := fun _ => fun
  | [d] => { results := [.lit (.bool false)], args := [d] }
  | _ => none }
def FnExactSumOpenWrongFalsely : Prop := fnExactSumOpenRow.holds Tryd.pinned (OpenSpec.ofChange fnExactSumOpenWrong)

/-- 'laws.FnExactCoreUber': WHATEVER THE INPUT: true; the input reads as it did. -/
def fnExactCoreUberSpec : ChangeSpec := { name := "fnExactCoreUber", fn := fun _ => fun
  | [d1, d2] => { results := [.lit (.bool true)], args := [d1, d2] }
  | _ => none }
def fnExactCoreUberRow : OpenClaim := { program := "ytljilcingbohkaadoor", sum := "aefa49a778ecf8b9f7823f23f1a0e8f9fd1233c46957815347648f33ad2aac48", func := "loop.example/palim/laws.FnExactCoreUber", spec := "fnExactCoreUber", inPlace := ["internal/abi.NoEscape", "internal/bytealg.MakeNoZero"], recurses := true, named := ["internal/strconv.uint64pow10", "math/bits.deBruijn32tab", "math/bits.deBruijn64tab"], apart := false, laid := [("math/bits.deBruijn32tab", laid_math_bits_deBruijn32tab), ("math/bits.deBruijn64tab", laid_math_bits_deBruijn64tab), ("internal/strconv.uint64pow10", laid_internal_strconv_uint64pow10)] }
def FnExactCoreUberSaid : Prop := fnExactCoreUberRow.holds Tryd.pinned (OpenSpec.ofChange fnExactCoreUberSpec)

/-- ITS FALSE NEIGHBOUR: 'it returns false'. Refute it at one input. -/
def fnExactCoreUberWrong : ChangeSpec := { name := "fnExactCoreUber", fn := fun _ => fun
  | [d1, d2] => { results := [.lit (.bool false)], args := [d1, d2] }
  | _ => none }
def FnExactCoreUberWrongFalsely : Prop := fnExactCoreUberRow.holds Tryd.pinned (OpenSpec.ofChange fnExactCoreUberWrong)

/-- 'laws.FnExactDdtText': WHATEVER THE INPUT: true; the input reads as it did. -/
def fnExactDdtTextSpec : ChangeSpec := { name := "fnExactDdtText", fn := fun _ => fun
  | [d] => { results := [.lit (.bool true)], args := [d] }
  | _ => none }
def fnExactDdtTextRow : OpenClaim := { program := "ytljilcingbohkaadoor", sum := "aefa49a778ecf8b9f7823f23f1a0e8f9fd1233c46957815347648f33ad2aac48", func := "loop.example/palim/laws.FnExactDdtText", spec := "fnExactDdtText", inPlace := ["internal/abi.NoEscape", "internal/bytealg.MakeNoZero"], recurses := true, named := ["internal/strconv.uint64pow10", "math/bits.deBruijn32tab", "math/bits.deBruijn64tab"], apart := false, laid := [("math/bits.deBruijn32tab", laid_math_bits_deBruijn32tab), ("math/bits.deBruijn64tab", laid_math_bits_deBruijn64tab), ("internal/strconv.uint64pow10", laid_internal_strconv_uint64pow10)] }
def FnExactDdtTextSaid : Prop := fnExactDdtTextRow.holds Tryd.pinned (OpenSpec.ofChange fnExactDdtTextSpec)

/-- ITS FALSE NEIGHBOUR: 'it returns false'. Refute it at one input. -/
def fnExactDdtTextWrong : ChangeSpec := { name := "fnExactDdtText", fn := fun _ => fun
  | [d] => { results := [.lit (.bool false)], args := [d] }
  | _ => none }
def FnExactDdtTextWrongFalsely : Prop := fnExactDdtTextRow.holds Tryd.pinned (OpenSpec.ofChange fnExactDdtTextWrong)

/-- 'laws.FnExactBookOk': WHATEVER THE INPUT: true; the input reads as it did. -/
def fnExactBookOkSpec : ChangeSpec := { name := "fnExactBookOk", fn := fun _ => fun
  | [d] => { results := [.lit (.bool true)], args := [d] }
  | _ => none }
def fnExactBookOkRow : OpenClaim := { program := "ytljilcingbohkaadoor", sum := "aefa49a778ecf8b9f7823f23f1a0e8f9fd1233c46957815347648f33ad2aac48", func := "loop.example/palim/laws.FnExactBookOk", spec := "fnExactBookOk", inPlace := ["internal/bytealg.IndexByteString", "internal/bytealg.IndexString"], unfollowed := true, recurses := true, named := ["unicode/utf8.first", "unicode/utf8.acceptRanges", "internal/bytealg.MaxLen"], apart := false, laid := [("unicode/utf8.acceptRanges", laid_unicode_utf8_acceptRanges), ("unicode/utf8.first", laid_unicode_utf8_first)] }
def FnExactBookOkSaid : Prop := fnExactBookOkRow.holds Tryd.pinned (OpenSpec.ofChange fnExactBookOkSpec)

/-- ITS FALSE NEIGHBOUR: 'it returns false'. Refute it at one input. -/
def fnExactBookOkWrong : ChangeSpec := { name := "fnExactBookOk", fn := fun _ => fun
  | [d] => { results := [.lit (.bool false)], args := [d] }
  | _ => none }
def FnExactBookOkWrongFalsely : Prop := fnExactBookOkRow.holds Tryd.pinned (OpenSpec.ofChange fnExactBookOkWrong)

/-- 'laws.FnExactBookGet': WHATEVER THE INPUT: true; the input reads as it did. -/
def fnExactBookGetSpec : ChangeSpec := { name := "fnExactBookGet", fn := fun _ => fun
  | [d1, d2, d3] => { results := [.lit (.bool true)], args := [d1, d2, d3] }
  | _ => none }
def fnExactBookGetRow : OpenClaim := { program := "ytljilcingbohkaadoor", sum := "aefa49a778ecf8b9f7823f23f1a0e8f9fd1233c46957815347648f33ad2aac48", func := "loop.example/palim/laws.FnExactBookGet", spec := "fnExactBookGet", inPlace := ["internal/bytealg.IndexByteString", "internal/bytealg.IndexString", "internal/bytealg.abigen_runtime_cmpstring"], unfollowed := true, recurses := true, named := ["unicode/utf8.first", "unicode/utf8.acceptRanges", "internal/bytealg.MaxLen"], apart := false, laid := [("unicode/utf8.acceptRanges", laid_unicode_utf8_acceptRanges), ("unicode/utf8.first", laid_unicode_utf8_first)] }
def FnExactBookGetSaid : Prop := fnExactBookGetRow.holds Tryd.pinned (OpenSpec.ofChange fnExactBookGetSpec)

/-- ITS FALSE NEIGHBOUR: 'it returns false'. Refute it at one input. -/
def fnExactBookGetWrong : ChangeSpec := { name := "fnExactBookGet", fn := fun _ => fun
  | [d1, d2, d3] => { results := [.lit (.bool false)], args := [d1, d2, d3] }
  | _ => none }
def FnExactBookGetWrongFalsely : Prop := fnExactBookGetRow.holds Tryd.pinned (OpenSpec.ofChange fnExactBookGetWrong)

/-- 'laws.FnExactLogText': WHATEVER THE INPUT: true; the input reads as it did. -/
def fnExactLogTextSpec : ChangeSpec := { name := "fnExactLogText", fn := fun _ => fun
  | [d] => { results := [.lit (.bool true)], args := [d] }
  | _ => none }
def fnExactLogTextRow : OpenClaim := { program := "ytljilcingbohkaadoor", sum := "aefa49a778ecf8b9f7823f23f1a0e8f9fd1233c46957815347648f33ad2aac48", func := "loop.example/palim/laws.FnExactLogText", spec := "fnExactLogText", inPlace := ["internal/bytealg.IndexByteString", "internal/bytealg.IndexString", "internal/abi.NoEscape", "internal/bytealg.MakeNoZero"], recurses := true, named := ["unicode/utf8.first", "unicode/utf8.acceptRanges", "internal/strconv.uint64pow10", "math/bits.deBruijn32tab", "math/bits.deBruijn64tab", "internal/bytealg.MaxLen"], apart := false, laid := [("math/bits.deBruijn32tab", laid_math_bits_deBruijn32tab), ("math/bits.deBruijn64tab", laid_math_bits_deBruijn64tab), ("internal/strconv.uint64pow10", laid_internal_strconv_uint64pow10), ("unicode/utf8.acceptRanges", laid_unicode_utf8_acceptRanges), ("unicode/utf8.first", laid_unicode_utf8_first)] }
def FnExactLogTextSaid : Prop := fnExactLogTextRow.holds Tryd.pinned (OpenSpec.ofChange fnExactLogTextSpec)

/-- ITS FALSE NEIGHBOUR: 'it returns false'. Refute it at one input. -/
def fnExactLogTextWrong : ChangeSpec := { name := "fnExactLogText", fn := fun _ => fun
  | [d] => { results := [.lit (.bool false)], args := [d] }
  | _ => none }
def FnExactLogTextWrongFalsely : Prop := fnExactLogTextRow.holds Tryd.pinned (OpenSpec.ofChange fnExactLogTextWrong)

/- THE SECOND FORM. 'bulk': how many values and letters a reading holds, each counted each time it is reached (what is shared counts as often as it is met; a slice's spare places count too). A statement '..UptoSaid' is the law's where the arguments, and the package variables that the reading takes, are together of bulk at most 1048576: NARROWER than '..Said'. Prove '..Said' where nothing that the law and all that it calls make is longer than what came in: it says more and counts as full. Else prove '..UptoSaid'. A law counts once. -/
mutual
def uptoBulk {H : Type} : DataW H → Nat
  | .lit (.string bytes) => bytes.length + 1
  | .lit _ => 1
  | .nil => 1
  | .ptr d => uptoBulk d + 1
  | .slice elems spare => uptoBulkAll elems + uptoBulkAll spare + 1
  | .agg parts => uptoBulkAll parts + 1
  | .iface _ d => uptoBulk d + 1
  | .map entries => uptoBulkEntries entries + 1
  | .held _ => 1
def uptoBulkAll {H : Type} : List (DataW H) → Nat
  | [] => 0
  | d :: r => uptoBulk d + uptoBulkAll r
def uptoBulkEntries {H : Type} : List (Lit × DataW H) → Nat
  | [] => 0
  | x :: r => uptoBulkEntry x + uptoBulkEntries r
def uptoBulkEntry {H : Type} : Lit × DataW H → Nat
  | (.string bytes, d) => bytes.length + uptoBulk d + 1
  | (_, d) => uptoBulk d + 1
 end
def uptoSmall : (H : Type) → List (DataW H) → Bool := fun _ ds => decide (uptoBulkAll ds ≤ 1048576)
def OpenSpec.upto (s : _root_.Go.ChangeSpec) : _root_.Go.OpenSpec := { _root_.Go.OpenSpec.ofChange s with cond := some uptoSmall }

/-- 'laws.FnExactSumSeal', WHERE WHAT IT READS IS OF BULK AT MOST 1048576: true; the input reads as it did. -/
def fnExactSumSealUptoRow : OpenClaim := { program := "ytljilcingbohkaadoor", sum := "aefa49a778ecf8b9f7823f23f1a0e8f9fd1233c46957815347648f33ad2aac48", func := "loop.example/palim/laws.FnExactSumSeal", spec := "fnExactSumSeal", recurses := true, named := ["internal/strconv.uint64pow10", "math/bits.deBruijn32tab", "math/bits.deBruijn64tab"], apart := false, laid := [("math/bits.deBruijn32tab", laid_math_bits_deBruijn32tab), ("math/bits.deBruijn64tab", laid_math_bits_deBruijn64tab), ("internal/strconv.uint64pow10", laid_internal_strconv_uint64pow10)], narrowed := true }
def FnExactSumSealUptoSaid : Prop := fnExactSumSealUptoRow.holds Tryd.pinned (OpenSpec.upto fnExactSumSealSpec)

/-- 'laws.FnExactBookName', WHERE WHAT IT READS IS OF BULK AT MOST 1048576: true; the input reads as it did. -/
def fnExactBookNameUptoRow : OpenClaim := { program := "ytljilcingbohkaadoor", sum := "aefa49a778ecf8b9f7823f23f1a0e8f9fd1233c46957815347648f33ad2aac48", func := "loop.example/palim/laws.FnExactBookName", spec := "fnExactBookName", inPlace := ["internal/bytealg.IndexByteString", "internal/bytealg.IndexString"], named := ["unicode/utf8.first", "unicode/utf8.acceptRanges", "internal/bytealg.MaxLen"], apart := false, laid := [("unicode/utf8.acceptRanges", laid_unicode_utf8_acceptRanges), ("unicode/utf8.first", laid_unicode_utf8_first)], narrowed := true }
def FnExactBookNameUptoSaid : Prop := fnExactBookNameUptoRow.holds Tryd.pinned (OpenSpec.upto fnExactBookNameSpec)

/-- 'laws.FnExactPtrText', WHERE WHAT IT READS IS OF BULK AT MOST 1048576: true; the input reads as it did. -/
def fnExactPtrTextUptoRow : OpenClaim := { program := "ytljilcingbohkaadoor", sum := "aefa49a778ecf8b9f7823f23f1a0e8f9fd1233c46957815347648f33ad2aac48", func := "loop.example/palim/laws.FnExactPtrText", spec := "fnExactPtrText", inPlace := ["internal/abi.NoEscape", "internal/bytealg.MakeNoZero"], recurses := true, named := ["internal/strconv.uint64pow10", "math/bits.deBruijn32tab", "math/bits.deBruijn64tab"], apart := false, laid := [("math/bits.deBruijn32tab", laid_math_bits_deBruijn32tab), ("math/bits.deBruijn64tab", laid_math_bits_deBruijn64tab), ("internal/strconv.uint64pow10", laid_internal_strconv_uint64pow10)], narrowed := true }
def FnExactPtrTextUptoSaid : Prop := fnExactPtrTextUptoRow.holds Tryd.pinned (OpenSpec.upto fnExactPtrTextSpec)

/-- 'laws.FnExactCoreMap', WHERE WHAT IT READS IS OF BULK AT MOST 1048576: true; the input reads as it did. -/
def fnExactCoreMapUptoRow : OpenClaim := { program := "ytljilcingbohkaadoor", sum := "aefa49a778ecf8b9f7823f23f1a0e8f9fd1233c46957815347648f33ad2aac48", func := "loop.example/palim/laws.FnExactCoreMap", spec := "fnExactCoreMap", inPlace := ["internal/abi.NoEscape", "internal/bytealg.MakeNoZero"], recurses := true, named := ["internal/strconv.uint64pow10", "math/bits.deBruijn32tab", "math/bits.deBruijn64tab"], apart := false, laid := [("math/bits.deBruijn32tab", laid_math_bits_deBruijn32tab), ("math/bits.deBruijn64tab", laid_math_bits_deBruijn64tab), ("internal/strconv.uint64pow10", laid_internal_strconv_uint64pow10)], narrowed := true }
def FnExactCoreMapUptoSaid : Prop := fnExactCoreMapUptoRow.holds Tryd.pinned (OpenSpec.upto fnExactCoreMapSpec)

/-- 'laws.FnExactSumOpen', WHERE WHAT IT READS IS OF BULK AT MOST 1048576: true; the input reads as it did. -/
def fnExactSumOpenUptoRow : OpenClaim := { program := "ytljilcingbohkaadoor", sum := "aefa49a778ecf8b9f7823f23f1a0e8f9fd1233c46957815347648f33ad2aac48", func := "loop.example/palim/laws.FnExactSumOpen", spec := "fnExactSumOpen", inPlace := ["internal/bytealg.IndexByteString", "internal/bytealg.IndexString"], recurses := true, named := ["internal/bytealg.MaxLen", "internal/strconv.uint64pow10", "math/bits.deBruijn32tab", "math/bits.deBruijn64tab"], apart := false, laid := [("math/bits.deBruijn32tab", laid_math_bits_deBruijn32tab), ("math/bits.deBruijn64tab", laid_math_bits_deBruijn64tab), ("internal/strconv.uint64pow10", laid_internal_strconv_uint64pow10)], narrowed := true }
def FnExactSumOpenUptoSaid : Prop := fnExactSumOpenUptoRow.holds Tryd.pinned (OpenSpec.upto fnExactSumOpenSpec)

/-- 'laws.FnExactCoreUber', WHERE WHAT IT READS IS OF BULK AT MOST 1048576: true; the input reads as it did. -/
def fnExactCoreUberUptoRow : OpenClaim := { program := "ytljilcingbohkaadoor", sum := "aefa49a778ecf8b9f7823f23f1a0e8f9fd1233c46957815347648f33ad2aac48", func := "loop.example/palim/laws.FnExactCoreUber", spec := "fnExactCoreUber", inPlace := ["internal/abi.NoEscape", "internal/bytealg.MakeNoZero"], recurses := true, named := ["internal/strconv.uint64pow10", "math/bits.deBruijn32tab", "math/bits.deBruijn64tab"], apart := false, laid := [("math/bits.deBruijn32tab", laid_math_bits_deBruijn32tab), ("math/bits.deBruijn64tab", laid_math_bits_deBruijn64tab), ("internal/strconv.uint64pow10", laid_internal_strconv_uint64pow10)], narrowed := true }
def FnExactCoreUberUptoSaid : Prop := fnExactCoreUberUptoRow.holds Tryd.pinned (OpenSpec.upto fnExactCoreUberSpec)

/-- 'laws.FnExactDdtText', WHERE WHAT IT READS IS OF BULK AT MOST 1048576: true; the input reads as it did. -/
def fnExactDdtTextUptoRow : OpenClaim := { program := "ytljilcingbohkaadoor", sum := "aefa49a778ecf8b9f7823f23f1a0e8f9fd1233c46957815347648f33ad2aac48", func := "loop.example/palim/laws.FnExactDdtText", spec := "fnExactDdtText", inPlace := ["internal/abi.NoEscape", "internal/bytealg.MakeNoZero"], recurses := true, named := ["internal/strconv.uint64pow10", "math/bits.deBruijn32tab", "math/bits.deBruijn64tab"], apart := false, laid := [("math/bits.deBruijn32tab", laid_math_bits_deBruijn32tab), ("math/bits.deBruijn64tab", laid_math_bits_deBruijn64tab), ("internal/strconv.uint64pow10", laid_internal_strconv_uint64pow10)], narrowed := true }
def FnExactDdtTextUptoSaid : Prop := fnExactDdtTextUptoRow.holds Tryd.pinned (OpenSpec.upto fnExactDdtTextSpec)

/-- 'laws.FnExactBookOk', WHERE WHAT IT READS IS OF BULK AT MOST 1048576: true; the input reads as it did. -/
def fnExactBookOkUptoRow : OpenClaim := { program := "ytljilcingbohkaadoor", sum := "aefa49a778ecf8b9f7823f23f1a0e8f9fd1233c46957815347648f33ad2aac48", func := "loop.example/palim/laws.FnExactBookOk", spec := "fnExactBookOk", inPlace := ["internal/bytealg.IndexByteString", "internal/bytealg.IndexString"], unfollowed := true, recurses := true, named := ["unicode/utf8.first", "unicode/utf8.acceptRanges", "internal/bytealg.MaxLen"], apart := false, laid := [("unicode/utf8.acceptRanges", laid_unicode_utf8_acceptRanges), ("unicode/utf8.first", laid_unicode_utf8_first)], narrowed := true }
def FnExactBookOkUptoSaid : Prop := fnExactBookOkUptoRow.holds Tryd.pinned (OpenSpec.upto fnExactBookOkSpec)

/-- 'laws.FnExactBookGet', WHERE WHAT IT READS IS OF BULK AT MOST 1048576: true; the input reads as it did. -/
def fnExactBookGetUptoRow : OpenClaim := { program := "ytljilcingbohkaadoor", sum := "aefa49a778ecf8b9f7823f23f1a0e8f9fd1233c46957815347648f33ad2aac48", func := "loop.example/palim/laws.FnExactBookGet", spec := "fnExactBookGet", inPlace := ["internal/bytealg.IndexByteString", "internal/bytealg.IndexString", "internal/bytealg.abigen_runtime_cmpstring"], unfollowed := true, recurses := true, named := ["unicode/utf8.first", "unicode/utf8.acceptRanges", "internal/bytealg.MaxLen"], apart := false, laid := [("unicode/utf8.acceptRanges", laid_unicode_utf8_acceptRanges), ("unicode/utf8.first", laid_unicode_utf8_first)], narrowed := true }
def FnExactBookGetUptoSaid : Prop := fnExactBookGetUptoRow.holds Tryd.pinned (OpenSpec.upto fnExactBookGetSpec)

/-- 'laws.FnExactLogText', WHERE WHAT IT READS IS OF BULK AT MOST 1048576: true; the input reads as it did. -/
def fnExactLogTextUptoRow : OpenClaim := { program := "ytljilcingbohkaadoor", sum := "aefa49a778ecf8b9f7823f23f1a0e8f9fd1233c46957815347648f33ad2aac48", func := "loop.example/palim/laws.FnExactLogText", spec := "fnExactLogText", inPlace := ["internal/bytealg.IndexByteString", "internal/bytealg.IndexString", "internal/abi.NoEscape", "internal/bytealg.MakeNoZero"], recurses := true, named := ["unicode/utf8.first", "unicode/utf8.acceptRanges", "internal/strconv.uint64pow10", "math/bits.deBruijn32tab", "math/bits.deBruijn64tab", "internal/bytealg.MaxLen"], apart := false, laid := [("math/bits.deBruijn32tab", laid_math_bits_deBruijn32tab), ("math/bits.deBruijn64tab", laid_math_bits_deBruijn64tab), ("internal/strconv.uint64pow10", laid_internal_strconv_uint64pow10), ("unicode/utf8.acceptRanges", laid_unicode_utf8_acceptRanges), ("unicode/utf8.first", laid_unicode_utf8_first)], narrowed := true }
def FnExactLogTextUptoSaid : Prop := fnExactLogTextUptoRow.holds Tryd.pinned (OpenSpec.upto fnExactLogTextSpec)

end Rows
end Go.Proofs.YtljilcingbohkaaDoor

/-
  DERIVED: THE SHELF's CONTRACTS AT THIS DUMP, IN PLAIN WORDS (tools/lay-plain.mjs out of 'TrydShelf.lean', which tools/lay-shelf.mjs wrote): THE SAME DECLARATIONS UNDER THE SAME NAMES: 'import', 'namespace', 'open', 'def', 'theorem' AND NOTHING ELSE: no command of the shelf's: FOR A HAND-IN. Each laying: the table of numbers ('.._ren') and one theorem, a field a fact of the dump's own or the kernel's comparison; each contract: ONE APPLICATION.
-/
import Derived.Shelf.Strings.Builder1
import Derived.Shelf.Strings.Builder2
import Derived.Shelf.Strings.OnBuilder
import Derived.Shelf.Strings.Trim
import Derived.Shelf.Small.Utf8
import Derived.Shelf.Small.Bits
import Derived.Shelf.Small.Strs
import Derived.Shelf.Utf8.RuneCount
import Derived.Shelf.Strconv.Atoi
import Derived.Shelf.Strconv.Itoa0
import Derived.Shelf.Strconv.Itoa1
import Derived.Shelf.LaysM
import Derived.Shelf.Strconv.Itoa2
import Derived.Shelf.Strconv.Itoa3
import Derived.Shelf.Strconv.AtoiErrFast
import Derived.Shelf.Strconv.ParseIntEmpty
import Derived.Shelf.Strconv.AtoiFail
import Derived.Shelf.Strconv.Clone
import Derived.Shelf.Strconv.SyntaxError
import Derived.Shelf.LaysC
import Derived.Shelf.Strconv.ToError
import Derived.Shelf.Strconv.Lower
import Derived.Shelf.Strconv.ParseUint10
import Derived.Shelf.Strconv.ParseUint10Empty
import Derived.Shelf.Strconv.ParseUint10Any
import Derived.Shelf.Strconv.ParseInt10
import Derived.Shelf.Strconv.AtoiLong
import Derived.Shelf.Strconv.AtoiInnerAll
import Derived.Shelf.Strconv.RangeError
import Derived.Shelf.Strconv.ToErrorRange
import Derived.Shelf.Strconv.AtoiAll
import Derived.Shelf.Strconv.ErrVarAll
import Derived.Shelf.Strings.Search1
import Derived.Shelf.Strings.Search2
import Derived.Shelf.Strings.Search3
import Derived.Shelf.Strings.Cut
import Derived.Shelf.Strings.Count
import Derived.Shelf.Strings.Shaped
import Derived.Shelf.Strings.Split
import Derived.Shelf.Strings.SplitShaped
import Derived.Shelf.Unicode.Decode
import Derived.Shelf.Strings.Runes
import Derived.Shelf.Strings.RuneCount
import Derived.Shelf.Strings.AsciiSet
import Derived.Shelf.Strings.Explode
import Derived.Shelf.Unicode.DecodeSlow
import Derived.Shelf.Unicode.DecodeAny
import Derived.Shelf.Unicode.DecodeLast
import Derived.Shelf.Slices.CompactS
import Derived.Shelf.Slices.Cells
import Derived.Test.YtljilcingbohkabDoorProg
namespace Go.Proofs
open Go.Shelf
def Tryd.lays160_ren : Go.Shelf.Ren := ⟨fun | 160 => 153 | 232 => 191 | 231 => 190 | 227 => 192 | 234 => 194 | 233 => 193 | 236 => 196 | 235 => 195 | 228 => 219 | 271 => 221 | 151 => 220 | 197 => 208 | 120 => 234 | 152 => 233 | 260 => 227 | 137 => 147 | 119 => 237 | 224 => 214 | 225 => 213 | 217 => 186 | 266 => 216 | n => n, fun | 9 => 9 | 4 => 4 | 3 => 3 | 5 => 5 | 117 => 213 | 116 => 212 | 0 => 0 | 124 => 216 | 21 => 21 | 105 => 227 | 46 => 165 | 119 => 254 | 139 => 257 | 138 => 256 | n => n, fun | 3 => 4 | 4 => 5 | n => n⟩
theorem Tryd.lays160 : Go.Proofs.Lays.n160 Tryd.prog Tryd.lays160_ren := {
  mixed := by kernel_rfl
  f119 := Tryd.func237.trans (congrArg some (by kernel_rfl))
  f120 := Tryd.func234.trans (congrArg some (by kernel_rfl))
  f137 := Tryd.func147.trans (congrArg some (by kernel_rfl))
  f151 := Tryd.func220.trans (congrArg some (by kernel_rfl))
  f152 := Tryd.func233.trans (congrArg some (by kernel_rfl))
  f160 := Tryd.func153.trans (congrArg some (by kernel_rfl))
  f197 := Tryd.func208.trans (congrArg some (by kernel_rfl))
  f217 := Tryd.func186.trans (congrArg some (by kernel_rfl))
  f224 := Tryd.func214.trans (congrArg some (by kernel_rfl))
  f225 := Tryd.func213.trans (congrArg some (by kernel_rfl))
  f227 := Tryd.func192.trans (congrArg some (by kernel_rfl))
  f228 := Tryd.func219.trans (congrArg some (by kernel_rfl))
  f231 := Tryd.func190.trans (congrArg some (by kernel_rfl))
  f232 := Tryd.func191.trans (congrArg some (by kernel_rfl))
  f233 := Tryd.func193.trans (congrArg some (by kernel_rfl))
  f234 := Tryd.func194.trans (congrArg some (by kernel_rfl))
  f235 := Tryd.func195.trans (congrArg some (by kernel_rfl))
  f236 := Tryd.func196.trans (congrArg some (by kernel_rfl))
  f260 := Tryd.func227.trans (congrArg some (by kernel_rfl))
  f266 := Tryd.func216.trans (congrArg some (by kernel_rfl))
  f271 := Tryd.func221.trans (congrArg some (by kernel_rfl))
  t0 := Tryd.underlying0
  a0 := Tryd.isAgg0
  z0 := Tryd.sizeOf0
  v0 := Tryd.zeroValue0
  t3 := Tryd.underlying3
  a3 := Tryd.isAgg3
  z3 := Tryd.sizeOf3
  v3 := Tryd.zeroValue3
  t4 := Tryd.underlying4
  a4 := Tryd.isAgg4
  z4 := Tryd.sizeOf4
  v4 := Tryd.zeroValue4
  t5 := Tryd.underlying5
  a5 := Tryd.isAgg5
  z5 := Tryd.sizeOf5
  v5 := Tryd.zeroValue5
  t9 := Tryd.underlying9
  a9 := Tryd.isAgg9
  z9 := Tryd.sizeOf9
  v9 := Tryd.zeroValue9
  t21 := Tryd.underlying21
  a21 := Tryd.isAgg21
  z21 := Tryd.sizeOf21
  v21 := Tryd.zeroValue21
  t46 := Tryd.underlying165
  a46 := Tryd.isAgg165
  z46 := Tryd.sizeOf165
  v46 := Tryd.zeroValue165
  t105 := Tryd.underlying227
  a105 := Tryd.isAgg227
  z105 := Tryd.sizeOf227
  v105 := Tryd.zeroValue227
  t116 := Tryd.underlying212
  a116 := Tryd.isAgg212
  z116 := Tryd.sizeOf212
  t117 := Tryd.underlying213
  a117 := Tryd.isAgg213
  z117 := Tryd.sizeOf213
  v117 := Tryd.zeroValue213
  t119 := Tryd.underlying254
  a119 := Tryd.isAgg254
  z119 := Tryd.sizeOf254
  t124 := Tryd.underlying216
  a124 := Tryd.isAgg216
  z124 := Tryd.sizeOf216
  v124 := Tryd.zeroValue216
  t138 := Tryd.underlying256
  a138 := Tryd.isAgg256
  z138 := Tryd.sizeOf256
  v138 := Tryd.zeroValue256
  t139 := Tryd.underlying257
  a139 := Tryd.isAgg257
  z139 := Tryd.sizeOf257
  v139 := Tryd.zeroValue257
  g3 := by kernel_rfl
  g4 := by kernel_rfl }
end Go.Proofs


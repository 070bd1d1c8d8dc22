/- The table of the program's types: each row says what the program's own table says. -/
import Derived.Test.YtkjnijddbiconaaGreatDoorEvB
import Derived.Test.YtkjnijddbiconaaGreatDoorProg
namespace Go.Proofs.YtkjnijddbiconaaGreatDoor.Ev
open Go
set_option maxRecDepth 100000
def ti7 : TI := ⟨.struct [(0, 1, 2), (1, 1, 3), (2, 1, 4), (3, 1, 6)], 4, 24, [.v (.int .i64 0), .v (.int .i64 0), .v (.bool false), .v (.int .u8 0)], [.int .i64, .int .i64, .bool, .int .u8]⟩
def ti8 : TI := ⟨.struct [(0, 1, 2), (1, 1, 3), (2, 1, 4), (3, 1, 6)], 4, 24, [.v (.int .i64 0), .v (.int .i64 0), .v (.bool false), .v (.int .u8 0)], [.int .i64, .int .i64, .bool, .int .u8]⟩
def ti22 : TI := ⟨.slice 151, 1, 24, [.slc [.str, .int .i64, .str, .int .i64, .int .i64, .int .i64, .int .i64, .int .i64, .int .i64, .int .i64, .int .i64, .int .i64, .int .i64, .int .i64, .int .i64, .int .i64, .int .i64, .int .i64, .int .i64, .int .i64, .int .i64, .int .i64, .int .i64, .int .i64, .int .i64, .int .i64, .int .i64, .int .i64, .int .i64, .int .i64, .bool]], []⟩
def ti26 : TI := ⟨.struct [(0, 1, 3), (1, 1, 22), (2, 1, 23), (3, 1, 24), (4, 1, 4), (5, 1, 25), (6, 1, 3)], 7, 120, [.v (.int .i64 0), .slc [.str, .int .i64, .str, .int .i64, .int .i64, .int .i64, .int .i64, .int .i64, .int .i64, .int .i64, .int .i64, .int .i64, .int .i64, .int .i64, .int .i64, .int .i64, .int .i64, .int .i64, .int .i64, .int .i64, .int .i64, .int .i64, .int .i64, .int .i64, .int .i64, .int .i64, .int .i64, .int .i64, .int .i64, .int .i64, .bool], .slc [.int .i64, .int .i64, .int .i64], .slc [.int .i64, .int .i64, .int .i64], .v (.bool false), .slc [.int .i64], .v (.int .i64 0)], []⟩
def ti27 : TI := ⟨.struct [(0, 1, 3), (1, 1, 22), (2, 1, 23), (3, 1, 24), (4, 1, 4), (5, 1, 25), (6, 1, 3)], 7, 120, [.v (.int .i64 0), .slc [.str, .int .i64, .str, .int .i64, .int .i64, .int .i64, .int .i64, .int .i64, .int .i64, .int .i64, .int .i64, .int .i64, .int .i64, .int .i64, .int .i64, .int .i64, .int .i64, .int .i64, .int .i64, .int .i64, .int .i64, .int .i64, .int .i64, .int .i64, .int .i64, .int .i64, .int .i64, .int .i64, .int .i64, .int .i64, .bool], .slc [.int .i64, .int .i64, .int .i64], .slc [.int .i64, .int .i64, .int .i64], .v (.bool false), .slc [.int .i64], .v (.int .i64 0)], []⟩
def ti30 : TI := ⟨.slice 96, 1, 24, [.slc [.str, .int .i64, .str, .int .i64, .int .i64, .int .i64, .int .i64, .int .i64, .int .i64, .int .i64, .int .i64, .int .i64, .int .i64, .int .i64, .int .i64, .int .i64, .int .i64, .int .i64, .int .i64, .int .i64, .int .i64, .int .i64, .int .i64, .int .i64, .int .i64, .int .i64, .int .i64, .int .i64, .int .i64, .int .i64, .bool]], []⟩
def ti33 : TI := ⟨.struct [(0, 1, 3), (1, 1, 30), (2, 1, 31), (3, 1, 32), (4, 1, 4), (5, 1, 25), (6, 1, 3)], 7, 120, [.v (.int .i64 0), .slc [.str, .int .i64, .str, .int .i64, .int .i64, .int .i64, .int .i64, .int .i64, .int .i64, .int .i64, .int .i64, .int .i64, .int .i64, .int .i64, .int .i64, .int .i64, .int .i64, .int .i64, .int .i64, .int .i64, .int .i64, .int .i64, .int .i64, .int .i64, .int .i64, .int .i64, .int .i64, .int .i64, .int .i64, .int .i64, .bool], .slc [.int .i64, .int .i64, .int .i64], .slc [.int .i64, .int .i64, .int .i64], .v (.bool false), .slc [.int .i64], .v (.int .i64 0)], []⟩
def ti34 : TI := ⟨.struct [(0, 1, 3), (1, 1, 30), (2, 1, 31), (3, 1, 32), (4, 1, 4), (5, 1, 25), (6, 1, 3)], 7, 120, [.v (.int .i64 0), .slc [.str, .int .i64, .str, .int .i64, .int .i64, .int .i64, .int .i64, .int .i64, .int .i64, .int .i64, .int .i64, .int .i64, .int .i64, .int .i64, .int .i64, .int .i64, .int .i64, .int .i64, .int .i64, .int .i64, .int .i64, .int .i64, .int .i64, .int .i64, .int .i64, .int .i64, .int .i64, .int .i64, .int .i64, .int .i64, .bool], .slc [.int .i64, .int .i64, .int .i64], .slc [.int .i64, .int .i64, .int .i64], .v (.bool false), .slc [.int .i64], .v (.int .i64 0)], []⟩
def ti83 : TI := ⟨.struct [(0, 1, 3), (1, 1, 3), (2, 1, 3)], 3, 24, [.v (.int .i64 0), .v (.int .i64 0), .v (.int .i64 0)], [.int .i64, .int .i64, .int .i64]⟩
def ti84 : TI := ⟨.struct [(0, 1, 3), (1, 1, 3), (2, 1, 3)], 3, 24, [.v (.int .i64 0), .v (.int .i64 0), .v (.int .i64 0)], [.int .i64, .int .i64, .int .i64]⟩
def ti85 : TI := ⟨.struct [(0, 1, 3), (1, 1, 3), (2, 1, 3)], 3, 24, [.v (.int .i64 0), .v (.int .i64 0), .v (.int .i64 0)], [.int .i64, .int .i64, .int .i64]⟩
def ti86 : TI := ⟨.struct [(0, 1, 3), (1, 1, 3), (2, 1, 3)], 3, 24, [.v (.int .i64 0), .v (.int .i64 0), .v (.int .i64 0)], [.int .i64, .int .i64, .int .i64]⟩
def ti94 : TI := ⟨.array 8 86, 24, 192, [.v (.int .i64 0), .v (.int .i64 0), .v (.int .i64 0), .v (.int .i64 0), .v (.int .i64 0), .v (.int .i64 0), .v (.int .i64 0), .v (.int .i64 0), .v (.int .i64 0), .v (.int .i64 0), .v (.int .i64 0), .v (.int .i64 0), .v (.int .i64 0), .v (.int .i64 0), .v (.int .i64 0), .v (.int .i64 0), .v (.int .i64 0), .v (.int .i64 0), .v (.int .i64 0), .v (.int .i64 0), .v (.int .i64 0), .v (.int .i64 0), .v (.int .i64 0), .v (.int .i64 0)], [.int .i64, .int .i64, .int .i64, .int .i64, .int .i64, .int .i64, .int .i64, .int .i64, .int .i64, .int .i64, .int .i64, .int .i64, .int .i64, .int .i64, .int .i64, .int .i64, .int .i64, .int .i64, .int .i64, .int .i64, .int .i64, .int .i64, .int .i64, .int .i64]⟩
def ti95 : TI := ⟨.struct [(0, 1, 9), (1, 1, 3), (2, 1, 9), (3, 24, 94), (27, 3, 86), (30, 1, 4)], 31, 264, [.v (.string ByteArray.empty), .v (.int .i64 0), .v (.string ByteArray.empty), .v (.int .i64 0), .v (.int .i64 0), .v (.int .i64 0), .v (.int .i64 0), .v (.int .i64 0), .v (.int .i64 0), .v (.int .i64 0), .v (.int .i64 0), .v (.int .i64 0), .v (.int .i64 0), .v (.int .i64 0), .v (.int .i64 0), .v (.int .i64 0), .v (.int .i64 0), .v (.int .i64 0), .v (.int .i64 0), .v (.int .i64 0), .v (.int .i64 0), .v (.int .i64 0), .v (.int .i64 0), .v (.int .i64 0), .v (.int .i64 0), .v (.int .i64 0), .v (.int .i64 0), .v (.int .i64 0), .v (.int .i64 0), .v (.int .i64 0), .v (.bool false)], [.str, .int .i64, .str, .int .i64, .int .i64, .int .i64, .int .i64, .int .i64, .int .i64, .int .i64, .int .i64, .int .i64, .int .i64, .int .i64, .int .i64, .int .i64, .int .i64, .int .i64, .int .i64, .int .i64, .int .i64, .int .i64, .int .i64, .int .i64, .int .i64, .int .i64, .int .i64, .int .i64, .int .i64, .int .i64, .bool]⟩
def ti96 : TI := ⟨.struct [(0, 1, 9), (1, 1, 3), (2, 1, 9), (3, 24, 94), (27, 3, 86), (30, 1, 4)], 31, 264, [.v (.string ByteArray.empty), .v (.int .i64 0), .v (.string ByteArray.empty), .v (.int .i64 0), .v (.int .i64 0), .v (.int .i64 0), .v (.int .i64 0), .v (.int .i64 0), .v (.int .i64 0), .v (.int .i64 0), .v (.int .i64 0), .v (.int .i64 0), .v (.int .i64 0), .v (.int .i64 0), .v (.int .i64 0), .v (.int .i64 0), .v (.int .i64 0), .v (.int .i64 0), .v (.int .i64 0), .v (.int .i64 0), .v (.int .i64 0), .v (.int .i64 0), .v (.int .i64 0), .v (.int .i64 0), .v (.int .i64 0), .v (.int .i64 0), .v (.int .i64 0), .v (.int .i64 0), .v (.int .i64 0), .v (.int .i64 0), .v (.bool false)], [.str, .int .i64, .str, .int .i64, .int .i64, .int .i64, .int .i64, .int .i64, .int .i64, .int .i64, .int .i64, .int .i64, .int .i64, .int .i64, .int .i64, .int .i64, .int .i64, .int .i64, .int .i64, .int .i64, .int .i64, .int .i64, .int .i64, .int .i64, .int .i64, .int .i64, .int .i64, .int .i64, .int .i64, .int .i64, .bool]⟩
def ti112 : TI := ⟨.array 8 9, 8, 128, [.v (.string ByteArray.empty), .v (.string ByteArray.empty), .v (.string ByteArray.empty), .v (.string ByteArray.empty), .v (.string ByteArray.empty), .v (.string ByteArray.empty), .v (.string ByteArray.empty), .v (.string ByteArray.empty)], [.str, .str, .str, .str, .str, .str, .str, .str]⟩
def ti113 : TI := ⟨.struct [(0, 1, 9), (1, 1, 3), (2, 1, 9), (3, 8, 112)], 11, 168, [.v (.string ByteArray.empty), .v (.int .i64 0), .v (.string ByteArray.empty), .v (.string ByteArray.empty), .v (.string ByteArray.empty), .v (.string ByteArray.empty), .v (.string ByteArray.empty), .v (.string ByteArray.empty), .v (.string ByteArray.empty), .v (.string ByteArray.empty), .v (.string ByteArray.empty)], [.str, .int .i64, .str, .str, .str, .str, .str, .str, .str, .str, .str]⟩
def ti114 : TI := ⟨.struct [(0, 1, 9), (1, 1, 3), (2, 1, 9), (3, 8, 112)], 11, 168, [.v (.string ByteArray.empty), .v (.int .i64 0), .v (.string ByteArray.empty), .v (.string ByteArray.empty), .v (.string ByteArray.empty), .v (.string ByteArray.empty), .v (.string ByteArray.empty), .v (.string ByteArray.empty), .v (.string ByteArray.empty), .v (.string ByteArray.empty), .v (.string ByteArray.empty)], [.str, .int .i64, .str, .str, .str, .str, .str, .str, .str, .str, .str]⟩
def ti148 : TI := ⟨.struct [(0, 1, 3), (1, 1, 3), (2, 1, 3)], 3, 24, [.v (.int .i64 0), .v (.int .i64 0), .v (.int .i64 0)], [.int .i64, .int .i64, .int .i64]⟩
def ti149 : TI := ⟨.array 8 148, 24, 192, [.v (.int .i64 0), .v (.int .i64 0), .v (.int .i64 0), .v (.int .i64 0), .v (.int .i64 0), .v (.int .i64 0), .v (.int .i64 0), .v (.int .i64 0), .v (.int .i64 0), .v (.int .i64 0), .v (.int .i64 0), .v (.int .i64 0), .v (.int .i64 0), .v (.int .i64 0), .v (.int .i64 0), .v (.int .i64 0), .v (.int .i64 0), .v (.int .i64 0), .v (.int .i64 0), .v (.int .i64 0), .v (.int .i64 0), .v (.int .i64 0), .v (.int .i64 0), .v (.int .i64 0)], [.int .i64, .int .i64, .int .i64, .int .i64, .int .i64, .int .i64, .int .i64, .int .i64, .int .i64, .int .i64, .int .i64, .int .i64, .int .i64, .int .i64, .int .i64, .int .i64, .int .i64, .int .i64, .int .i64, .int .i64, .int .i64, .int .i64, .int .i64, .int .i64]⟩
def ti150 : TI := ⟨.struct [(0, 1, 9), (1, 1, 3), (2, 1, 9), (3, 24, 149), (27, 3, 148), (30, 1, 4)], 31, 264, [.v (.string ByteArray.empty), .v (.int .i64 0), .v (.string ByteArray.empty), .v (.int .i64 0), .v (.int .i64 0), .v (.int .i64 0), .v (.int .i64 0), .v (.int .i64 0), .v (.int .i64 0), .v (.int .i64 0), .v (.int .i64 0), .v (.int .i64 0), .v (.int .i64 0), .v (.int .i64 0), .v (.int .i64 0), .v (.int .i64 0), .v (.int .i64 0), .v (.int .i64 0), .v (.int .i64 0), .v (.int .i64 0), .v (.int .i64 0), .v (.int .i64 0), .v (.int .i64 0), .v (.int .i64 0), .v (.int .i64 0), .v (.int .i64 0), .v (.int .i64 0), .v (.int .i64 0), .v (.int .i64 0), .v (.int .i64 0), .v (.bool false)], [.str, .int .i64, .str, .int .i64, .int .i64, .int .i64, .int .i64, .int .i64, .int .i64, .int .i64, .int .i64, .int .i64, .int .i64, .int .i64, .int .i64, .int .i64, .int .i64, .int .i64, .int .i64, .int .i64, .int .i64, .int .i64, .int .i64, .int .i64, .int .i64, .int .i64, .int .i64, .int .i64, .int .i64, .int .i64, .bool]⟩
def ti151 : TI := ⟨.struct [(0, 1, 9), (1, 1, 3), (2, 1, 9), (3, 24, 149), (27, 3, 148), (30, 1, 4)], 31, 264, [.v (.string ByteArray.empty), .v (.int .i64 0), .v (.string ByteArray.empty), .v (.int .i64 0), .v (.int .i64 0), .v (.int .i64 0), .v (.int .i64 0), .v (.int .i64 0), .v (.int .i64 0), .v (.int .i64 0), .v (.int .i64 0), .v (.int .i64 0), .v (.int .i64 0), .v (.int .i64 0), .v (.int .i64 0), .v (.int .i64 0), .v (.int .i64 0), .v (.int .i64 0), .v (.int .i64 0), .v (.int .i64 0), .v (.int .i64 0), .v (.int .i64 0), .v (.int .i64 0), .v (.int .i64 0), .v (.int .i64 0), .v (.int .i64 0), .v (.int .i64 0), .v (.int .i64 0), .v (.int .i64 0), .v (.int .i64 0), .v (.bool false)], [.str, .int .i64, .str, .int .i64, .int .i64, .int .i64, .int .i64, .int .i64, .int .i64, .int .i64, .int .i64, .int .i64, .int .i64, .int .i64, .int .i64, .int .i64, .int .i64, .int .i64, .int .i64, .int .i64, .int .i64, .int .i64, .int .i64, .int .i64, .int .i64, .int .i64, .int .i64, .int .i64, .int .i64, .int .i64, .bool]⟩
def ti155 : TI := ⟨.struct [(0, 1, 3), (1, 1, 3), (2, 1, 3)], 3, 24, [.v (.int .i64 0), .v (.int .i64 0), .v (.int .i64 0)], [.int .i64, .int .i64, .int .i64]⟩
def ti174 : TI := ⟨.struct [(0, 1, 3), (1, 1, 3), (2, 1, 9)], 3, 32, [.v (.int .i64 0), .v (.int .i64 0), .v (.string ByteArray.empty)], [.int .i64, .int .i64, .str]⟩
def ti175 : TI := ⟨.struct [(0, 1, 3), (1, 1, 3), (2, 1, 9)], 3, 32, [.v (.int .i64 0), .v (.int .i64 0), .v (.string ByteArray.empty)], [.int .i64, .int .i64, .str]⟩
def ti177 : TI := ⟨.struct [(0, 1, 3), (1, 1, 3), (2, 1, 9)], 3, 32, [.v (.int .i64 0), .v (.int .i64 0), .v (.string ByteArray.empty)], [.int .i64, .int .i64, .str]⟩
def ti346 : TI := ⟨.struct [(0, 1, 17), (1, 1, 17), (2, 1, 17), (3, 1, 9)], 4, 40, [.v (.pointer none), .v (.pointer none), .v (.pointer none), .v (.string ByteArray.empty)], []⟩
def ti347 : TI := ⟨.struct [(0, 1, 17), (1, 1, 17), (2, 1, 17), (3, 1, 9)], 4, 40, [.v (.pointer none), .v (.pointer none), .v (.pointer none), .v (.string ByteArray.empty)], []⟩
def ti357 : TI := ⟨.struct [(0, 1, 12), (1, 1, 12), (2, 1, 239), (3, 1, 352), (4, 1, 5), (5, 1, 5), (6, 1, 353), (7, 1, 354), (8, 1, 263), (9, 1, 355), (10, 1, 356)], 11, 48, [.v (.int .u64 0), .v (.int .u64 0), .v (.int .u32 0), .v (.int .u8 0), .v (.int .u8 0), .v (.int .u8 0), .v (.int .u8 0), .v .nilFunc, .v (.pointer none), .v (.int .i32 0), .v (.int .i32 0)], []⟩
def ti358 : TI := ⟨.struct [(0, 1, 12), (1, 1, 12), (2, 1, 239), (3, 1, 352), (4, 1, 5), (5, 1, 5), (6, 1, 353), (7, 1, 354), (8, 1, 263), (9, 1, 355), (10, 1, 356)], 11, 48, [.v (.int .u64 0), .v (.int .u64 0), .v (.int .u32 0), .v (.int .u8 0), .v (.int .u8 0), .v (.int .u8 0), .v (.int .u8 0), .v .nilFunc, .v (.pointer none), .v (.int .i32 0), .v (.int .i32 0)], []⟩
def tt : List (Nat × TI) := [
  (1, ⟨.other, 1, 8, [.v .nilFunc], []⟩),
  (2, ⟨.int .i64, 1, 8, [.v (.int .i64 0)], [.int .i64]⟩),
  (3, ⟨.int .i64, 1, 8, [.v (.int .i64 0)], [.int .i64]⟩),
  (4, ⟨.bool, 1, 1, [.v (.bool false)], [.bool]⟩),
  (5, ⟨.int .u8, 1, 1, [.v (.int .u8 0)], [.int .u8]⟩),
  (6, ⟨.int .u8, 1, 1, [.v (.int .u8 0)], [.int .u8]⟩),
  (7, ti7),
  (8, ti8),
  (9, ⟨.str, 1, 16, [.v (.string ByteArray.empty)], [.str]⟩),
  (10, ⟨.str, 1, 16, [.v (.string ByteArray.empty)], [.str]⟩),
  (11, ⟨.str, 1, 16, [.v (.string ByteArray.empty)], [.str]⟩),
  (12, ⟨.int .u64, 1, 8, [.v (.int .u64 0)], [.int .u64]⟩),
  (13, ⟨.struct [(0, 1, 9), (1, 1, 12)], 2, 24, [.v (.string ByteArray.empty), .v (.int .u64 0)], [.str, .int .u64]⟩),
  (14, ⟨.struct [(0, 1, 9), (1, 1, 12)], 2, 24, [.v (.string ByteArray.empty), .v (.int .u64 0)], [.str, .int .u64]⟩),
  (15, ⟨.other, 1, 8, [.v (.pointer none)], []⟩),
  (16, ⟨.other, 1, 8, [.v (.pointer none)], []⟩),
  (17, ⟨.other, 1, 8, [.v (.pointer none)], []⟩),
  (18, ⟨.struct [(0, 1, 17)], 1, 8, [.v (.pointer none)], []⟩),
  (19, ⟨.struct [(0, 1, 17)], 1, 8, [.v (.pointer none)], []⟩),
  (20, ⟨.iface, 1, 16, [.v .nilIface], []⟩),
  (21, ⟨.int .i32, 1, 4, [.v (.int .i32 0)], [.int .i32]⟩),
  (22, ti22),
  (23, ⟨.slice 155, 1, 24, [.slc [.int .i64, .int .i64, .int .i64]], []⟩),
  (24, ⟨.slice 148, 1, 24, [.slc [.int .i64, .int .i64, .int .i64]], []⟩),
  (25, ⟨.slice 3, 1, 24, [.slc [.int .i64]], []⟩),
  (26, ti26),
  (27, ti27),
  (28, ⟨.other, 1, 8, [.v .nilFunc], []⟩),
  (29, ⟨.other, 1, 8, [.v .nilFunc], []⟩),
  (30, ti30),
  (31, ⟨.slice 84, 1, 24, [.slc [.int .i64, .int .i64, .int .i64]], []⟩),
  (32, ⟨.slice 86, 1, 24, [.slc [.int .i64, .int .i64, .int .i64]], []⟩),
  (33, ti33),
  (34, ti34),
  (35, ⟨.other, 1, 8, [.v .nilFunc], []⟩),
  (36, ⟨.other, 1, 8, [.v .nilFunc], []⟩),
  (37, ⟨.other, 1, 8, [.v .nilFunc], []⟩),
  (38, ⟨.other, 1, 8, [.v .nilFunc], []⟩),
  (39, ⟨.other, 1, 8, [.v .nilFunc], []⟩),
  (40, ⟨.other, 1, 8, [.v .nilFunc], []⟩),
  (41, ⟨.other, 1, 8, [.v .nilFunc], []⟩),
  (43, ⟨.other, 1, 8, [.v .nilFunc], []⟩),
  (44, ⟨.slice 9, 1, 24, [.slc [.str]], []⟩),
  (45, ⟨.array 2 44, 2, 48, [.slc [.str], .slc [.str]], []⟩),
  (46, ⟨.slice 175, 1, 24, [.slc [.int .i64, .int .i64, .str]], []⟩),
  (47, ⟨.struct [(0, 2, 45), (2, 1, 46)], 3, 72, [.slc [.str], .slc [.str], .slc [.int .i64, .int .i64, .str]], []⟩),
  (48, ⟨.struct [(0, 2, 45), (2, 1, 46)], 3, 72, [.slc [.str], .slc [.str], .slc [.int .i64, .int .i64, .str]], []⟩),
  (49, ⟨.other, 1, 8, [.v .nilFunc], []⟩),
  (50, ⟨.slice 114, 1, 24, [.slc [.str, .int .i64, .str, .str, .str, .str, .str, .str, .str, .str, .str]], []⟩),
  (51, ⟨.struct [(0, 1, 50)], 1, 24, [.slc [.str, .int .i64, .str, .str, .str, .str, .str, .str, .str, .str, .str]], []⟩),
  (54, ⟨.other, 1, 8, [.v .nilFunc], []⟩),
  (55, ⟨.slice 177, 1, 24, [.slc [.int .i64, .int .i64, .str]], []⟩),
  (56, ⟨.struct [(0, 2, 45), (2, 1, 55)], 3, 72, [.slc [.str], .slc [.str], .slc [.int .i64, .int .i64, .str]], []⟩),
  (57, ⟨.struct [(0, 2, 45), (2, 1, 55)], 3, 72, [.slc [.str], .slc [.str], .slc [.int .i64, .int .i64, .str]], []⟩),
  (59, ⟨.other, 1, 8, [.v .nilFunc], []⟩),
  (60, ⟨.other, 1, 8, [.v .nilFunc], []⟩),
  (61, ⟨.other, 1, 8, [.v .nilFunc], []⟩),
  (65, ⟨.other, 1, 8, [.v .nilFunc], []⟩),
  (66, ⟨.other, 1, 8, [.v .nilFunc], []⟩),
  (67, ⟨.slice 5, 1, 24, [.slc [.int .u8]], []⟩),
  (69, ⟨.other, 1, 8, [.v .nilFunc], []⟩),
  (70, ⟨.other, 1, 8, [.v .nilFunc], []⟩),
  (71, ⟨.other, 1, 8, [.v .nilFunc], []⟩),
  (72, ⟨.other, 1, 8, [.v .nilFunc], []⟩),
  (74, ⟨.other, 1, 8, [.v .nilFunc], []⟩),
  (75, ⟨.other, 1, 8, [.v .nilFunc], []⟩),
  (77, ⟨.other, 1, 8, [.v .nilFunc], []⟩),
  (78, ⟨.other, 1, 8, [.v .nilFunc], []⟩),
  (79, ⟨.other, 1, 8, [.v .nilFunc], []⟩),
  (80, ⟨.other, 1, 8, [.v .nilFunc], []⟩),
  (82, ⟨.other, 1, 8, [.v .nilFunc], []⟩),
  (83, ti83),
  (84, ti84),
  (85, ti85),
  (86, ti86),
  (87, ⟨.other, 1, 8, [.v .nilFunc], []⟩),
  (88, ⟨.other, 1, 8, [.v .nilFunc], []⟩),
  (90, ⟨.other, 1, 8, [.v .nilFunc], []⟩),
  (91, ⟨.other, 1, 8, [.v .nilFunc], []⟩),
  (93, ⟨.other, 1, 8, [.v .nilFunc], []⟩),
  (94, ti94),
  (95, ti95),
  (96, ti96),
  (97, ⟨.other, 1, 8, [.v .nilFunc], []⟩),
  (99, ⟨.other, 1, 8, [.v .nilFunc], []⟩),
  (104, ⟨.other, 1, 8, [.v .nilFunc], []⟩),
  (106, ⟨.other, 1, 8, [.v .nilFunc], []⟩),
  (107, ⟨.other, 1, 8, [.v .nilFunc], []⟩),
  (108, ⟨.other, 1, 8, [.v .nilFunc], []⟩),
  (109, ⟨.other, 1, 8, [.v .nilFunc], []⟩),
  (110, ⟨.other, 1, 8, [.v .nilFunc], []⟩),
  (111, ⟨.other, 1, 8, [.v .nilFunc], []⟩),
  (112, ti112),
  (113, ti113),
  (114, ti114),
  (115, ⟨.other, 1, 8, [.v .nilFunc], []⟩),
  (116, ⟨.other, 1, 8, [.v .nilFunc], []⟩),
  (117, ⟨.other, 1, 8, [.v .nilFunc], []⟩),
  (118, ⟨.other, 1, 8, [.v .nilFunc], []⟩),
  (119, ⟨.other, 1, 8, [.v .nilFunc], []⟩),
  (120, ⟨.other, 1, 8, [.v .nilFunc], []⟩),
  (121, ⟨.other, 1, 8, [.v .nilFunc], []⟩),
  (122, ⟨.other, 1, 8, [.v .nilFunc], []⟩),
  (123, ⟨.other, 1, 8, [.v .nilFunc], []⟩),
  (125, ⟨.other, 1, 8, [.v .nilFunc], []⟩),
  (126, ⟨.other, 1, 8, [.v .nilFunc], []⟩),
  (127, ⟨.other, 1, 8, [.v .nilFunc], []⟩),
  (128, ⟨.other, 1, 8, [.v (.pointer none)], []⟩),
  (129, ⟨.other, 1, 8, [.v .nilFunc], []⟩),
  (131, ⟨.other, 1, 8, [.v .nilFunc], []⟩),
  (132, ⟨.other, 1, 8, [.v .nilFunc], []⟩),
  (135, ⟨.other, 1, 8, [.v .nilFunc], []⟩),
  (137, ⟨.other, 1, 8, [.v .nilFunc], []⟩),
  (138, ⟨.other, 1, 8, [.v .nilFunc], []⟩),
  (139, ⟨.other, 1, 8, [.v .nilFunc], []⟩),
  (141, ⟨.other, 1, 8, [.v .nilFunc], []⟩),
  (142, ⟨.other, 1, 8, [.v .nilFunc], []⟩),
  (143, ⟨.other, 1, 8, [.v .nilFunc], []⟩),
  (144, ⟨.other, 1, 8, [.v .nilFunc], []⟩),
  (145, ⟨.other, 1, 8, [.v .nilFunc], []⟩),
  (146, ⟨.other, 1, 8, [.v .nilFunc], []⟩),
  (147, ⟨.other, 1, 8, [.v .nilFunc], []⟩),
  (148, ti148),
  (149, ti149),
  (150, ti150),
  (151, ti151),
  (152, ⟨.other, 1, 8, [.v .nilFunc], []⟩),
  (153, ⟨.other, 1, 8, [.v .nilFunc], []⟩),
  (154, ⟨.other, 1, 8, [.v .nilFunc], []⟩),
  (155, ti155),
  (156, ⟨.other, 1, 8, [.v .nilFunc], []⟩),
  (157, ⟨.other, 1, 8, [.v .nilFunc], []⟩),
  (158, ⟨.other, 1, 8, [.v .nilFunc], []⟩),
  (160, ⟨.other, 1, 8, [.v .nilFunc], []⟩),
  (163, ⟨.other, 1, 8, [.v .nilFunc], []⟩),
  (164, ⟨.int .u64, 1, 8, [.v (.int .u64 0)], [.int .u64]⟩),
  (166, ⟨.other, 1, 8, [.v .nilFunc], []⟩),
  (167, ⟨.other, 1, 8, [.v .nilFunc], []⟩),
  (168, ⟨.other, 1, 8, [.v .nilFunc], []⟩),
  (169, ⟨.other, 1, 8, [.v .nilFunc], []⟩),
  (170, ⟨.other, 1, 8, [.v .nilFunc], []⟩),
  (171, ⟨.other, 1, 8, [.v .nilFunc], []⟩),
  (173, ⟨.other, 1, 8, [.v .nilFunc], []⟩),
  (174, ti174),
  (175, ti175),
  (176, ⟨.other, 1, 8, [.v .nilFunc], []⟩),
  (177, ti177),
  (178, ⟨.other, 1, 8, [.v .nilFunc], []⟩),
  (179, ⟨.other, 1, 8, [.v .nilFunc], []⟩),
  (180, ⟨.other, 1, 8, [.v .nilFunc], []⟩),
  (182, ⟨.other, 1, 8, [.v .nilFunc], []⟩),
  (183, ⟨.other, 1, 8, [.v .nilFunc], []⟩),
  (184, ⟨.other, 1, 8, [.v .nilFunc], []⟩),
  (185, ⟨.other, 1, 8, [.v .nilFunc], []⟩),
  (186, ⟨.other, 1, 8, [.v .nilFunc], []⟩),
  (187, ⟨.other, 1, 8, [.v .nilFunc], []⟩),
  (188, ⟨.other, 1, 8, [.v .nilFunc], []⟩),
  (190, ⟨.other, 1, 8, [.v .nilFunc], []⟩),
  (191, ⟨.other, 1, 8, [.v .nilFunc], []⟩),
  (192, ⟨.other, 1, 8, [.v .nilFunc], []⟩),
  (193, ⟨.other, 1, 8, [.v .nilFunc], []⟩),
  (194, ⟨.other, 1, 8, [.v .nilFunc], []⟩),
  (195, ⟨.other, 1, 8, [.v .nilFunc], []⟩),
  (197, ⟨.iface, 1, 16, [.v .nilIface], []⟩),
  (198, ⟨.iface, 1, 16, [.v .nilIface], []⟩),
  (200, ⟨.other, 1, 8, [.v .nilFunc], []⟩),
  (203, ⟨.struct [(0, 1, 67), (1, 1, 3)], 2, 32, [.slc [.int .u8], .v (.int .i64 0)], []⟩),
  (204, ⟨.struct [(0, 1, 67), (1, 1, 3)], 2, 32, [.slc [.int .u8], .v (.int .i64 0)], []⟩),
  (207, ⟨.other, 1, 8, [.v .nilFunc], []⟩),
  (213, ⟨.other, 1, 8, [.v .nilFunc], []⟩),
  (215, ⟨.other, 1, 8, [.v .nilFunc], []⟩),
  (216, ⟨.other, 1, 8, [.v .nilFunc], []⟩),
  (218, ⟨.other, 1, 8, [.v .nilFunc], []⟩),
  (220, ⟨.other, 1, 8, [.v .nilFunc], []⟩),
  (221, ⟨.other, 1, 8, [.v .nilFunc], []⟩),
  (222, ⟨.array 3 3, 3, 24, [.v (.int .i64 0), .v (.int .i64 0), .v (.int .i64 0)], [.int .i64, .int .i64, .int .i64]⟩),
  (223, ⟨.other, 1, 8, [.v (.pointer none)], []⟩),
  (224, ⟨.struct [(0, 1, 223), (1, 1, 67)], 2, 32, [.v (.pointer none), .slc [.int .u8]], []⟩),
  (225, ⟨.struct [(0, 1, 223), (1, 1, 67)], 2, 32, [.v (.pointer none), .slc [.int .u8]], []⟩),
  (226, ⟨.other, 1, 8, [.v .nilFunc], []⟩),
  (227, ⟨.other, 1, 8, [.v .nilFunc], []⟩),
  (237, ⟨.other, 1, 8, [.v .nilFunc], []⟩),
  (238, ⟨.other, 1, 8, [.v .nilFunc], []⟩),
  (239, ⟨.int .u32, 1, 4, [.v (.int .u32 0)], [.int .u32]⟩),
  (243, ⟨.other, 1, 8, [.v .nilFunc], []⟩),
  (244, ⟨.other, 1, 8, [.v .nilFunc], []⟩),
  (249, ⟨.other, 1, 8, [.v .nilFunc], []⟩),
  (251, ⟨.other, 1, 8, [.v .nilFunc], []⟩),
  (253, ⟨.other, 1, 8, [.v .nilFunc], []⟩),
  (256, ⟨.other, 1, 8, [.v .nilFunc], []⟩),
  (257, ⟨.other, 1, 8, [.v .nilFunc], []⟩),
  (261, ⟨.other, 1, 8, [.v .nilFunc], []⟩),
  (262, ⟨.other, 1, 8, [.v .nilFunc], []⟩),
  (263, ⟨.other, 1, 8, [.v (.pointer none)], []⟩),
  (342, ⟨.other, 1, 8, [.v .nilFunc], []⟩),
  (346, ti346),
  (347, ti347),
  (348, ⟨.array 0 16, 0, 0, [], []⟩),
  (349, ⟨.struct [(0, 0, 348)], 0, 0, [], []⟩),
  (350, ⟨.struct [(0, 0, 348)], 0, 0, [], []⟩),
  (352, ⟨.int .u8, 1, 1, [.v (.int .u8 0)], [.int .u8]⟩),
  (353, ⟨.int .u8, 1, 1, [.v (.int .u8 0)], [.int .u8]⟩),
  (354, ⟨.other, 1, 8, [.v .nilFunc], []⟩),
  (355, ⟨.int .i32, 1, 4, [.v (.int .i32 0)], [.int .i32]⟩),
  (356, ⟨.int .i32, 1, 4, [.v (.int .i32 0)], [.int .i32]⟩),
  (357, ti357),
  (358, ti358)]
theorem row1 : RowOK Tryz.prog 1 ⟨.other, 1, 8, [.v .nilFunc], []⟩ := ⟨by kernel_rfl, by kernel_rfl, by kernel_rfl, by kernel_rfl, .inl (by kernel_rfl), by kernel_rfl⟩
theorem row2 : RowOK Tryz.prog 2 ⟨.int .i64, 1, 8, [.v (.int .i64 0)], [.int .i64]⟩ := ⟨by kernel_rfl, by kernel_rfl, by kernel_rfl, by kernel_rfl, .inr (by kernel_rfl), by kernel_rfl⟩
theorem row3 : RowOK Tryz.prog 3 ⟨.int .i64, 1, 8, [.v (.int .i64 0)], [.int .i64]⟩ := ⟨by kernel_rfl, by kernel_rfl, by kernel_rfl, by kernel_rfl, .inr (by kernel_rfl), by kernel_rfl⟩
theorem row4 : RowOK Tryz.prog 4 ⟨.bool, 1, 1, [.v (.bool false)], [.bool]⟩ := ⟨by kernel_rfl, by kernel_rfl, by kernel_rfl, by kernel_rfl, .inr (by kernel_rfl), by kernel_rfl⟩
theorem row5 : RowOK Tryz.prog 5 ⟨.int .u8, 1, 1, [.v (.int .u8 0)], [.int .u8]⟩ := ⟨by kernel_rfl, by kernel_rfl, by kernel_rfl, by kernel_rfl, .inr (by kernel_rfl), by kernel_rfl⟩
theorem row6 : RowOK Tryz.prog 6 ⟨.int .u8, 1, 1, [.v (.int .u8 0)], [.int .u8]⟩ := ⟨by kernel_rfl, by kernel_rfl, by kernel_rfl, by kernel_rfl, .inr (by kernel_rfl), by kernel_rfl⟩
theorem row7 : RowOK Tryz.prog 7 ti7 := ⟨by kernel_rfl, by kernel_rfl, by kernel_rfl, by kernel_rfl, .inr (by kernel_rfl), by kernel_rfl⟩
theorem row8 : RowOK Tryz.prog 8 ti8 := ⟨by kernel_rfl, by kernel_rfl, by kernel_rfl, by kernel_rfl, .inr (by kernel_rfl), by kernel_rfl⟩
theorem row9 : RowOK Tryz.prog 9 ⟨.str, 1, 16, [.v (.string ByteArray.empty)], [.str]⟩ := ⟨by kernel_rfl, by kernel_rfl, by kernel_rfl, by kernel_rfl, .inr (by kernel_rfl), by kernel_rfl⟩
theorem row10 : RowOK Tryz.prog 10 ⟨.str, 1, 16, [.v (.string ByteArray.empty)], [.str]⟩ := ⟨by kernel_rfl, by kernel_rfl, by kernel_rfl, by kernel_rfl, .inr (by kernel_rfl), by kernel_rfl⟩
theorem row11 : RowOK Tryz.prog 11 ⟨.str, 1, 16, [.v (.string ByteArray.empty)], [.str]⟩ := ⟨by kernel_rfl, by kernel_rfl, by kernel_rfl, by kernel_rfl, .inr (by kernel_rfl), by kernel_rfl⟩
theorem row12 : RowOK Tryz.prog 12 ⟨.int .u64, 1, 8, [.v (.int .u64 0)], [.int .u64]⟩ := ⟨by kernel_rfl, by kernel_rfl, by kernel_rfl, by kernel_rfl, .inr (by kernel_rfl), by kernel_rfl⟩
theorem row13 : RowOK Tryz.prog 13 ⟨.struct [(0, 1, 9), (1, 1, 12)], 2, 24, [.v (.string ByteArray.empty), .v (.int .u64 0)], [.str, .int .u64]⟩ := ⟨by kernel_rfl, by kernel_rfl, by kernel_rfl, by kernel_rfl, .inr (by kernel_rfl), by kernel_rfl⟩
theorem row14 : RowOK Tryz.prog 14 ⟨.struct [(0, 1, 9), (1, 1, 12)], 2, 24, [.v (.string ByteArray.empty), .v (.int .u64 0)], [.str, .int .u64]⟩ := ⟨by kernel_rfl, by kernel_rfl, by kernel_rfl, by kernel_rfl, .inr (by kernel_rfl), by kernel_rfl⟩
theorem row15 : RowOK Tryz.prog 15 ⟨.other, 1, 8, [.v (.pointer none)], []⟩ := ⟨by kernel_rfl, by kernel_rfl, by kernel_rfl, by kernel_rfl, .inl (by kernel_rfl), by kernel_rfl⟩
theorem row16 : RowOK Tryz.prog 16 ⟨.other, 1, 8, [.v (.pointer none)], []⟩ := ⟨by kernel_rfl, by kernel_rfl, by kernel_rfl, by kernel_rfl, .inl (by kernel_rfl), by kernel_rfl⟩
theorem row17 : RowOK Tryz.prog 17 ⟨.other, 1, 8, [.v (.pointer none)], []⟩ := ⟨by kernel_rfl, by kernel_rfl, by kernel_rfl, by kernel_rfl, .inl (by kernel_rfl), by kernel_rfl⟩
theorem row18 : RowOK Tryz.prog 18 ⟨.struct [(0, 1, 17)], 1, 8, [.v (.pointer none)], []⟩ := ⟨by kernel_rfl, by kernel_rfl, by kernel_rfl, by kernel_rfl, .inl (by kernel_rfl), by kernel_rfl⟩
theorem row19 : RowOK Tryz.prog 19 ⟨.struct [(0, 1, 17)], 1, 8, [.v (.pointer none)], []⟩ := ⟨by kernel_rfl, by kernel_rfl, by kernel_rfl, by kernel_rfl, .inl (by kernel_rfl), by kernel_rfl⟩
theorem row20 : RowOK Tryz.prog 20 ⟨.iface, 1, 16, [.v .nilIface], []⟩ := ⟨by kernel_rfl, by kernel_rfl, by kernel_rfl, by kernel_rfl, .inl (by kernel_rfl), by kernel_rfl⟩
theorem row21 : RowOK Tryz.prog 21 ⟨.int .i32, 1, 4, [.v (.int .i32 0)], [.int .i32]⟩ := ⟨by kernel_rfl, by kernel_rfl, by kernel_rfl, by kernel_rfl, .inr (by kernel_rfl), by kernel_rfl⟩
theorem row22 : RowOK Tryz.prog 22 ti22 := ⟨by kernel_rfl, by kernel_rfl, by kernel_rfl, by kernel_rfl, .inl (by kernel_rfl), by kernel_rfl⟩
theorem row23 : RowOK Tryz.prog 23 ⟨.slice 155, 1, 24, [.slc [.int .i64, .int .i64, .int .i64]], []⟩ := ⟨by kernel_rfl, by kernel_rfl, by kernel_rfl, by kernel_rfl, .inl (by kernel_rfl), by kernel_rfl⟩
theorem row24 : RowOK Tryz.prog 24 ⟨.slice 148, 1, 24, [.slc [.int .i64, .int .i64, .int .i64]], []⟩ := ⟨by kernel_rfl, by kernel_rfl, by kernel_rfl, by kernel_rfl, .inl (by kernel_rfl), by kernel_rfl⟩
theorem row25 : RowOK Tryz.prog 25 ⟨.slice 3, 1, 24, [.slc [.int .i64]], []⟩ := ⟨by kernel_rfl, by kernel_rfl, by kernel_rfl, by kernel_rfl, .inl (by kernel_rfl), by kernel_rfl⟩
theorem row26 : RowOK Tryz.prog 26 ti26 := ⟨by kernel_rfl, by kernel_rfl, by kernel_rfl, by kernel_rfl, .inl (by kernel_rfl), by kernel_rfl⟩
theorem row27 : RowOK Tryz.prog 27 ti27 := ⟨by kernel_rfl, by kernel_rfl, by kernel_rfl, by kernel_rfl, .inl (by kernel_rfl), by kernel_rfl⟩
theorem row28 : RowOK Tryz.prog 28 ⟨.other, 1, 8, [.v .nilFunc], []⟩ := ⟨by kernel_rfl, by kernel_rfl, by kernel_rfl, by kernel_rfl, .inl (by kernel_rfl), by kernel_rfl⟩
theorem row29 : RowOK Tryz.prog 29 ⟨.other, 1, 8, [.v .nilFunc], []⟩ := ⟨by kernel_rfl, by kernel_rfl, by kernel_rfl, by kernel_rfl, .inl (by kernel_rfl), by kernel_rfl⟩
theorem row30 : RowOK Tryz.prog 30 ti30 := ⟨by kernel_rfl, by kernel_rfl, by kernel_rfl, by kernel_rfl, .inl (by kernel_rfl), by kernel_rfl⟩
theorem row31 : RowOK Tryz.prog 31 ⟨.slice 84, 1, 24, [.slc [.int .i64, .int .i64, .int .i64]], []⟩ := ⟨by kernel_rfl, by kernel_rfl, by kernel_rfl, by kernel_rfl, .inl (by kernel_rfl), by kernel_rfl⟩
theorem row32 : RowOK Tryz.prog 32 ⟨.slice 86, 1, 24, [.slc [.int .i64, .int .i64, .int .i64]], []⟩ := ⟨by kernel_rfl, by kernel_rfl, by kernel_rfl, by kernel_rfl, .inl (by kernel_rfl), by kernel_rfl⟩
theorem row33 : RowOK Tryz.prog 33 ti33 := ⟨by kernel_rfl, by kernel_rfl, by kernel_rfl, by kernel_rfl, .inl (by kernel_rfl), by kernel_rfl⟩
theorem row34 : RowOK Tryz.prog 34 ti34 := ⟨by kernel_rfl, by kernel_rfl, by kernel_rfl, by kernel_rfl, .inl (by kernel_rfl), by kernel_rfl⟩
theorem row35 : RowOK Tryz.prog 35 ⟨.other, 1, 8, [.v .nilFunc], []⟩ := ⟨by kernel_rfl, by kernel_rfl, by kernel_rfl, by kernel_rfl, .inl (by kernel_rfl), by kernel_rfl⟩
theorem row36 : RowOK Tryz.prog 36 ⟨.other, 1, 8, [.v .nilFunc], []⟩ := ⟨by kernel_rfl, by kernel_rfl, by kernel_rfl, by kernel_rfl, .inl (by kernel_rfl), by kernel_rfl⟩
theorem row37 : RowOK Tryz.prog 37 ⟨.other, 1, 8, [.v .nilFunc], []⟩ := ⟨by kernel_rfl, by kernel_rfl, by kernel_rfl, by kernel_rfl, .inl (by kernel_rfl), by kernel_rfl⟩
theorem row38 : RowOK Tryz.prog 38 ⟨.other, 1, 8, [.v .nilFunc], []⟩ := ⟨by kernel_rfl, by kernel_rfl, by kernel_rfl, by kernel_rfl, .inl (by kernel_rfl), by kernel_rfl⟩
theorem row39 : RowOK Tryz.prog 39 ⟨.other, 1, 8, [.v .nilFunc], []⟩ := ⟨by kernel_rfl, by kernel_rfl, by kernel_rfl, by kernel_rfl, .inl (by kernel_rfl), by kernel_rfl⟩
theorem row40 : RowOK Tryz.prog 40 ⟨.other, 1, 8, [.v .nilFunc], []⟩ := ⟨by kernel_rfl, by kernel_rfl, by kernel_rfl, by kernel_rfl, .inl (by kernel_rfl), by kernel_rfl⟩
theorem row41 : RowOK Tryz.prog 41 ⟨.other, 1, 8, [.v .nilFunc], []⟩ := ⟨by kernel_rfl, by kernel_rfl, by kernel_rfl, by kernel_rfl, .inl (by kernel_rfl), by kernel_rfl⟩
theorem row43 : RowOK Tryz.prog 43 ⟨.other, 1, 8, [.v .nilFunc], []⟩ := ⟨by kernel_rfl, by kernel_rfl, by kernel_rfl, by kernel_rfl, .inl (by kernel_rfl), by kernel_rfl⟩
theorem row44 : RowOK Tryz.prog 44 ⟨.slice 9, 1, 24, [.slc [.str]], []⟩ := ⟨by kernel_rfl, by kernel_rfl, by kernel_rfl, by kernel_rfl, .inl (by kernel_rfl), by kernel_rfl⟩
theorem row45 : RowOK Tryz.prog 45 ⟨.array 2 44, 2, 48, [.slc [.str], .slc [.str]], []⟩ := ⟨by kernel_rfl, by kernel_rfl, by kernel_rfl, by kernel_rfl, .inl (by kernel_rfl), by kernel_rfl⟩
theorem row46 : RowOK Tryz.prog 46 ⟨.slice 175, 1, 24, [.slc [.int .i64, .int .i64, .str]], []⟩ := ⟨by kernel_rfl, by kernel_rfl, by kernel_rfl, by kernel_rfl, .inl (by kernel_rfl), by kernel_rfl⟩
theorem row47 : RowOK Tryz.prog 47 ⟨.struct [(0, 2, 45), (2, 1, 46)], 3, 72, [.slc [.str], .slc [.str], .slc [.int .i64, .int .i64, .str]], []⟩ := ⟨by kernel_rfl, by kernel_rfl, by kernel_rfl, by kernel_rfl, .inl (by kernel_rfl), by kernel_rfl⟩
theorem row48 : RowOK Tryz.prog 48 ⟨.struct [(0, 2, 45), (2, 1, 46)], 3, 72, [.slc [.str], .slc [.str], .slc [.int .i64, .int .i64, .str]], []⟩ := ⟨by kernel_rfl, by kernel_rfl, by kernel_rfl, by kernel_rfl, .inl (by kernel_rfl), by kernel_rfl⟩
theorem row49 : RowOK Tryz.prog 49 ⟨.other, 1, 8, [.v .nilFunc], []⟩ := ⟨by kernel_rfl, by kernel_rfl, by kernel_rfl, by kernel_rfl, .inl (by kernel_rfl), by kernel_rfl⟩
theorem row50 : RowOK Tryz.prog 50 ⟨.slice 114, 1, 24, [.slc [.str, .int .i64, .str, .str, .str, .str, .str, .str, .str, .str, .str]], []⟩ := ⟨by kernel_rfl, by kernel_rfl, by kernel_rfl, by kernel_rfl, .inl (by kernel_rfl), by kernel_rfl⟩
theorem row51 : RowOK Tryz.prog 51 ⟨.struct [(0, 1, 50)], 1, 24, [.slc [.str, .int .i64, .str, .str, .str, .str, .str, .str, .str, .str, .str]], []⟩ := ⟨by kernel_rfl, by kernel_rfl, by kernel_rfl, by kernel_rfl, .inl (by kernel_rfl), by kernel_rfl⟩
theorem row54 : RowOK Tryz.prog 54 ⟨.other, 1, 8, [.v .nilFunc], []⟩ := ⟨by kernel_rfl, by kernel_rfl, by kernel_rfl, by kernel_rfl, .inl (by kernel_rfl), by kernel_rfl⟩
theorem row55 : RowOK Tryz.prog 55 ⟨.slice 177, 1, 24, [.slc [.int .i64, .int .i64, .str]], []⟩ := ⟨by kernel_rfl, by kernel_rfl, by kernel_rfl, by kernel_rfl, .inl (by kernel_rfl), by kernel_rfl⟩
theorem row56 : RowOK Tryz.prog 56 ⟨.struct [(0, 2, 45), (2, 1, 55)], 3, 72, [.slc [.str], .slc [.str], .slc [.int .i64, .int .i64, .str]], []⟩ := ⟨by kernel_rfl, by kernel_rfl, by kernel_rfl, by kernel_rfl, .inl (by kernel_rfl), by kernel_rfl⟩
theorem row57 : RowOK Tryz.prog 57 ⟨.struct [(0, 2, 45), (2, 1, 55)], 3, 72, [.slc [.str], .slc [.str], .slc [.int .i64, .int .i64, .str]], []⟩ := ⟨by kernel_rfl, by kernel_rfl, by kernel_rfl, by kernel_rfl, .inl (by kernel_rfl), by kernel_rfl⟩
theorem row59 : RowOK Tryz.prog 59 ⟨.other, 1, 8, [.v .nilFunc], []⟩ := ⟨by kernel_rfl, by kernel_rfl, by kernel_rfl, by kernel_rfl, .inl (by kernel_rfl), by kernel_rfl⟩
theorem row60 : RowOK Tryz.prog 60 ⟨.other, 1, 8, [.v .nilFunc], []⟩ := ⟨by kernel_rfl, by kernel_rfl, by kernel_rfl, by kernel_rfl, .inl (by kernel_rfl), by kernel_rfl⟩
theorem row61 : RowOK Tryz.prog 61 ⟨.other, 1, 8, [.v .nilFunc], []⟩ := ⟨by kernel_rfl, by kernel_rfl, by kernel_rfl, by kernel_rfl, .inl (by kernel_rfl), by kernel_rfl⟩
theorem row65 : RowOK Tryz.prog 65 ⟨.other, 1, 8, [.v .nilFunc], []⟩ := ⟨by kernel_rfl, by kernel_rfl, by kernel_rfl, by kernel_rfl, .inl (by kernel_rfl), by kernel_rfl⟩
theorem row66 : RowOK Tryz.prog 66 ⟨.other, 1, 8, [.v .nilFunc], []⟩ := ⟨by kernel_rfl, by kernel_rfl, by kernel_rfl, by kernel_rfl, .inl (by kernel_rfl), by kernel_rfl⟩
theorem row67 : RowOK Tryz.prog 67 ⟨.slice 5, 1, 24, [.slc [.int .u8]], []⟩ := ⟨by kernel_rfl, by kernel_rfl, by kernel_rfl, by kernel_rfl, .inl (by kernel_rfl), by kernel_rfl⟩
theorem row69 : RowOK Tryz.prog 69 ⟨.other, 1, 8, [.v .nilFunc], []⟩ := ⟨by kernel_rfl, by kernel_rfl, by kernel_rfl, by kernel_rfl, .inl (by kernel_rfl), by kernel_rfl⟩
theorem row70 : RowOK Tryz.prog 70 ⟨.other, 1, 8, [.v .nilFunc], []⟩ := ⟨by kernel_rfl, by kernel_rfl, by kernel_rfl, by kernel_rfl, .inl (by kernel_rfl), by kernel_rfl⟩
theorem row71 : RowOK Tryz.prog 71 ⟨.other, 1, 8, [.v .nilFunc], []⟩ := ⟨by kernel_rfl, by kernel_rfl, by kernel_rfl, by kernel_rfl, .inl (by kernel_rfl), by kernel_rfl⟩
theorem row72 : RowOK Tryz.prog 72 ⟨.other, 1, 8, [.v .nilFunc], []⟩ := ⟨by kernel_rfl, by kernel_rfl, by kernel_rfl, by kernel_rfl, .inl (by kernel_rfl), by kernel_rfl⟩
theorem row74 : RowOK Tryz.prog 74 ⟨.other, 1, 8, [.v .nilFunc], []⟩ := ⟨by kernel_rfl, by kernel_rfl, by kernel_rfl, by kernel_rfl, .inl (by kernel_rfl), by kernel_rfl⟩
theorem row75 : RowOK Tryz.prog 75 ⟨.other, 1, 8, [.v .nilFunc], []⟩ := ⟨by kernel_rfl, by kernel_rfl, by kernel_rfl, by kernel_rfl, .inl (by kernel_rfl), by kernel_rfl⟩
theorem row77 : RowOK Tryz.prog 77 ⟨.other, 1, 8, [.v .nilFunc], []⟩ := ⟨by kernel_rfl, by kernel_rfl, by kernel_rfl, by kernel_rfl, .inl (by kernel_rfl), by kernel_rfl⟩
theorem row78 : RowOK Tryz.prog 78 ⟨.other, 1, 8, [.v .nilFunc], []⟩ := ⟨by kernel_rfl, by kernel_rfl, by kernel_rfl, by kernel_rfl, .inl (by kernel_rfl), by kernel_rfl⟩
theorem row79 : RowOK Tryz.prog 79 ⟨.other, 1, 8, [.v .nilFunc], []⟩ := ⟨by kernel_rfl, by kernel_rfl, by kernel_rfl, by kernel_rfl, .inl (by kernel_rfl), by kernel_rfl⟩
theorem row80 : RowOK Tryz.prog 80 ⟨.other, 1, 8, [.v .nilFunc], []⟩ := ⟨by kernel_rfl, by kernel_rfl, by kernel_rfl, by kernel_rfl, .inl (by kernel_rfl), by kernel_rfl⟩
theorem row82 : RowOK Tryz.prog 82 ⟨.other, 1, 8, [.v .nilFunc], []⟩ := ⟨by kernel_rfl, by kernel_rfl, by kernel_rfl, by kernel_rfl, .inl (by kernel_rfl), by kernel_rfl⟩
theorem row83 : RowOK Tryz.prog 83 ti83 := ⟨by kernel_rfl, by kernel_rfl, by kernel_rfl, by kernel_rfl, .inr (by kernel_rfl), by kernel_rfl⟩
theorem row84 : RowOK Tryz.prog 84 ti84 := ⟨by kernel_rfl, by kernel_rfl, by kernel_rfl, by kernel_rfl, .inr (by kernel_rfl), by kernel_rfl⟩
theorem row85 : RowOK Tryz.prog 85 ti85 := ⟨by kernel_rfl, by kernel_rfl, by kernel_rfl, by kernel_rfl, .inr (by kernel_rfl), by kernel_rfl⟩
theorem row86 : RowOK Tryz.prog 86 ti86 := ⟨by kernel_rfl, by kernel_rfl, by kernel_rfl, by kernel_rfl, .inr (by kernel_rfl), by kernel_rfl⟩
theorem row87 : RowOK Tryz.prog 87 ⟨.other, 1, 8, [.v .nilFunc], []⟩ := ⟨by kernel_rfl, by kernel_rfl, by kernel_rfl, by kernel_rfl, .inl (by kernel_rfl), by kernel_rfl⟩
theorem row88 : RowOK Tryz.prog 88 ⟨.other, 1, 8, [.v .nilFunc], []⟩ := ⟨by kernel_rfl, by kernel_rfl, by kernel_rfl, by kernel_rfl, .inl (by kernel_rfl), by kernel_rfl⟩
theorem row90 : RowOK Tryz.prog 90 ⟨.other, 1, 8, [.v .nilFunc], []⟩ := ⟨by kernel_rfl, by kernel_rfl, by kernel_rfl, by kernel_rfl, .inl (by kernel_rfl), by kernel_rfl⟩
theorem row91 : RowOK Tryz.prog 91 ⟨.other, 1, 8, [.v .nilFunc], []⟩ := ⟨by kernel_rfl, by kernel_rfl, by kernel_rfl, by kernel_rfl, .inl (by kernel_rfl), by kernel_rfl⟩
theorem row93 : RowOK Tryz.prog 93 ⟨.other, 1, 8, [.v .nilFunc], []⟩ := ⟨by kernel_rfl, by kernel_rfl, by kernel_rfl, by kernel_rfl, .inl (by kernel_rfl), by kernel_rfl⟩
theorem row94 : RowOK Tryz.prog 94 ti94 := ⟨by kernel_rfl, by kernel_rfl, by kernel_rfl, by kernel_rfl, .inr (by kernel_rfl), by kernel_rfl⟩
theorem row95 : RowOK Tryz.prog 95 ti95 := ⟨by kernel_rfl, by kernel_rfl, by kernel_rfl, by kernel_rfl, .inr (by kernel_rfl), by kernel_rfl⟩
theorem row96 : RowOK Tryz.prog 96 ti96 := ⟨by kernel_rfl, by kernel_rfl, by kernel_rfl, by kernel_rfl, .inr (by kernel_rfl), by kernel_rfl⟩
theorem row97 : RowOK Tryz.prog 97 ⟨.other, 1, 8, [.v .nilFunc], []⟩ := ⟨by kernel_rfl, by kernel_rfl, by kernel_rfl, by kernel_rfl, .inl (by kernel_rfl), by kernel_rfl⟩
theorem row99 : RowOK Tryz.prog 99 ⟨.other, 1, 8, [.v .nilFunc], []⟩ := ⟨by kernel_rfl, by kernel_rfl, by kernel_rfl, by kernel_rfl, .inl (by kernel_rfl), by kernel_rfl⟩
theorem row104 : RowOK Tryz.prog 104 ⟨.other, 1, 8, [.v .nilFunc], []⟩ := ⟨by kernel_rfl, by kernel_rfl, by kernel_rfl, by kernel_rfl, .inl (by kernel_rfl), by kernel_rfl⟩
theorem row106 : RowOK Tryz.prog 106 ⟨.other, 1, 8, [.v .nilFunc], []⟩ := ⟨by kernel_rfl, by kernel_rfl, by kernel_rfl, by kernel_rfl, .inl (by kernel_rfl), by kernel_rfl⟩
theorem row107 : RowOK Tryz.prog 107 ⟨.other, 1, 8, [.v .nilFunc], []⟩ := ⟨by kernel_rfl, by kernel_rfl, by kernel_rfl, by kernel_rfl, .inl (by kernel_rfl), by kernel_rfl⟩
theorem row108 : RowOK Tryz.prog 108 ⟨.other, 1, 8, [.v .nilFunc], []⟩ := ⟨by kernel_rfl, by kernel_rfl, by kernel_rfl, by kernel_rfl, .inl (by kernel_rfl), by kernel_rfl⟩
theorem row109 : RowOK Tryz.prog 109 ⟨.other, 1, 8, [.v .nilFunc], []⟩ := ⟨by kernel_rfl, by kernel_rfl, by kernel_rfl, by kernel_rfl, .inl (by kernel_rfl), by kernel_rfl⟩
theorem row110 : RowOK Tryz.prog 110 ⟨.other, 1, 8, [.v .nilFunc], []⟩ := ⟨by kernel_rfl, by kernel_rfl, by kernel_rfl, by kernel_rfl, .inl (by kernel_rfl), by kernel_rfl⟩
theorem row111 : RowOK Tryz.prog 111 ⟨.other, 1, 8, [.v .nilFunc], []⟩ := ⟨by kernel_rfl, by kernel_rfl, by kernel_rfl, by kernel_rfl, .inl (by kernel_rfl), by kernel_rfl⟩
theorem row112 : RowOK Tryz.prog 112 ti112 := ⟨by kernel_rfl, by kernel_rfl, by kernel_rfl, by kernel_rfl, .inr (by kernel_rfl), by kernel_rfl⟩
theorem row113 : RowOK Tryz.prog 113 ti113 := ⟨by kernel_rfl, by kernel_rfl, by kernel_rfl, by kernel_rfl, .inr (by kernel_rfl), by kernel_rfl⟩
theorem row114 : RowOK Tryz.prog 114 ti114 := ⟨by kernel_rfl, by kernel_rfl, by kernel_rfl, by kernel_rfl, .inr (by kernel_rfl), by kernel_rfl⟩
theorem row115 : RowOK Tryz.prog 115 ⟨.other, 1, 8, [.v .nilFunc], []⟩ := ⟨by kernel_rfl, by kernel_rfl, by kernel_rfl, by kernel_rfl, .inl (by kernel_rfl), by kernel_rfl⟩
theorem row116 : RowOK Tryz.prog 116 ⟨.other, 1, 8, [.v .nilFunc], []⟩ := ⟨by kernel_rfl, by kernel_rfl, by kernel_rfl, by kernel_rfl, .inl (by kernel_rfl), by kernel_rfl⟩
theorem row117 : RowOK Tryz.prog 117 ⟨.other, 1, 8, [.v .nilFunc], []⟩ := ⟨by kernel_rfl, by kernel_rfl, by kernel_rfl, by kernel_rfl, .inl (by kernel_rfl), by kernel_rfl⟩
theorem row118 : RowOK Tryz.prog 118 ⟨.other, 1, 8, [.v .nilFunc], []⟩ := ⟨by kernel_rfl, by kernel_rfl, by kernel_rfl, by kernel_rfl, .inl (by kernel_rfl), by kernel_rfl⟩
theorem row119 : RowOK Tryz.prog 119 ⟨.other, 1, 8, [.v .nilFunc], []⟩ := ⟨by kernel_rfl, by kernel_rfl, by kernel_rfl, by kernel_rfl, .inl (by kernel_rfl), by kernel_rfl⟩
theorem row120 : RowOK Tryz.prog 120 ⟨.other, 1, 8, [.v .nilFunc], []⟩ := ⟨by kernel_rfl, by kernel_rfl, by kernel_rfl, by kernel_rfl, .inl (by kernel_rfl), by kernel_rfl⟩
theorem row121 : RowOK Tryz.prog 121 ⟨.other, 1, 8, [.v .nilFunc], []⟩ := ⟨by kernel_rfl, by kernel_rfl, by kernel_rfl, by kernel_rfl, .inl (by kernel_rfl), by kernel_rfl⟩
theorem row122 : RowOK Tryz.prog 122 ⟨.other, 1, 8, [.v .nilFunc], []⟩ := ⟨by kernel_rfl, by kernel_rfl, by kernel_rfl, by kernel_rfl, .inl (by kernel_rfl), by kernel_rfl⟩
theorem row123 : RowOK Tryz.prog 123 ⟨.other, 1, 8, [.v .nilFunc], []⟩ := ⟨by kernel_rfl, by kernel_rfl, by kernel_rfl, by kernel_rfl, .inl (by kernel_rfl), by kernel_rfl⟩
theorem row125 : RowOK Tryz.prog 125 ⟨.other, 1, 8, [.v .nilFunc], []⟩ := ⟨by kernel_rfl, by kernel_rfl, by kernel_rfl, by kernel_rfl, .inl (by kernel_rfl), by kernel_rfl⟩
theorem row126 : RowOK Tryz.prog 126 ⟨.other, 1, 8, [.v .nilFunc], []⟩ := ⟨by kernel_rfl, by kernel_rfl, by kernel_rfl, by kernel_rfl, .inl (by kernel_rfl), by kernel_rfl⟩
theorem row127 : RowOK Tryz.prog 127 ⟨.other, 1, 8, [.v .nilFunc], []⟩ := ⟨by kernel_rfl, by kernel_rfl, by kernel_rfl, by kernel_rfl, .inl (by kernel_rfl), by kernel_rfl⟩
theorem row128 : RowOK Tryz.prog 128 ⟨.other, 1, 8, [.v (.pointer none)], []⟩ := ⟨by kernel_rfl, by kernel_rfl, by kernel_rfl, by kernel_rfl, .inl (by kernel_rfl), by kernel_rfl⟩
theorem row129 : RowOK Tryz.prog 129 ⟨.other, 1, 8, [.v .nilFunc], []⟩ := ⟨by kernel_rfl, by kernel_rfl, by kernel_rfl, by kernel_rfl, .inl (by kernel_rfl), by kernel_rfl⟩
theorem row131 : RowOK Tryz.prog 131 ⟨.other, 1, 8, [.v .nilFunc], []⟩ := ⟨by kernel_rfl, by kernel_rfl, by kernel_rfl, by kernel_rfl, .inl (by kernel_rfl), by kernel_rfl⟩
theorem row132 : RowOK Tryz.prog 132 ⟨.other, 1, 8, [.v .nilFunc], []⟩ := ⟨by kernel_rfl, by kernel_rfl, by kernel_rfl, by kernel_rfl, .inl (by kernel_rfl), by kernel_rfl⟩
theorem row135 : RowOK Tryz.prog 135 ⟨.other, 1, 8, [.v .nilFunc], []⟩ := ⟨by kernel_rfl, by kernel_rfl, by kernel_rfl, by kernel_rfl, .inl (by kernel_rfl), by kernel_rfl⟩
theorem row137 : RowOK Tryz.prog 137 ⟨.other, 1, 8, [.v .nilFunc], []⟩ := ⟨by kernel_rfl, by kernel_rfl, by kernel_rfl, by kernel_rfl, .inl (by kernel_rfl), by kernel_rfl⟩
theorem row138 : RowOK Tryz.prog 138 ⟨.other, 1, 8, [.v .nilFunc], []⟩ := ⟨by kernel_rfl, by kernel_rfl, by kernel_rfl, by kernel_rfl, .inl (by kernel_rfl), by kernel_rfl⟩
theorem row139 : RowOK Tryz.prog 139 ⟨.other, 1, 8, [.v .nilFunc], []⟩ := ⟨by kernel_rfl, by kernel_rfl, by kernel_rfl, by kernel_rfl, .inl (by kernel_rfl), by kernel_rfl⟩
theorem row141 : RowOK Tryz.prog 141 ⟨.other, 1, 8, [.v .nilFunc], []⟩ := ⟨by kernel_rfl, by kernel_rfl, by kernel_rfl, by kernel_rfl, .inl (by kernel_rfl), by kernel_rfl⟩
theorem row142 : RowOK Tryz.prog 142 ⟨.other, 1, 8, [.v .nilFunc], []⟩ := ⟨by kernel_rfl, by kernel_rfl, by kernel_rfl, by kernel_rfl, .inl (by kernel_rfl), by kernel_rfl⟩
theorem row143 : RowOK Tryz.prog 143 ⟨.other, 1, 8, [.v .nilFunc], []⟩ := ⟨by kernel_rfl, by kernel_rfl, by kernel_rfl, by kernel_rfl, .inl (by kernel_rfl), by kernel_rfl⟩
theorem row144 : RowOK Tryz.prog 144 ⟨.other, 1, 8, [.v .nilFunc], []⟩ := ⟨by kernel_rfl, by kernel_rfl, by kernel_rfl, by kernel_rfl, .inl (by kernel_rfl), by kernel_rfl⟩
theorem row145 : RowOK Tryz.prog 145 ⟨.other, 1, 8, [.v .nilFunc], []⟩ := ⟨by kernel_rfl, by kernel_rfl, by kernel_rfl, by kernel_rfl, .inl (by kernel_rfl), by kernel_rfl⟩
theorem row146 : RowOK Tryz.prog 146 ⟨.other, 1, 8, [.v .nilFunc], []⟩ := ⟨by kernel_rfl, by kernel_rfl, by kernel_rfl, by kernel_rfl, .inl (by kernel_rfl), by kernel_rfl⟩
theorem row147 : RowOK Tryz.prog 147 ⟨.other, 1, 8, [.v .nilFunc], []⟩ := ⟨by kernel_rfl, by kernel_rfl, by kernel_rfl, by kernel_rfl, .inl (by kernel_rfl), by kernel_rfl⟩
theorem row148 : RowOK Tryz.prog 148 ti148 := ⟨by kernel_rfl, by kernel_rfl, by kernel_rfl, by kernel_rfl, .inr (by kernel_rfl), by kernel_rfl⟩
theorem row149 : RowOK Tryz.prog 149 ti149 := ⟨by kernel_rfl, by kernel_rfl, by kernel_rfl, by kernel_rfl, .inr (by kernel_rfl), by kernel_rfl⟩
theorem row150 : RowOK Tryz.prog 150 ti150 := ⟨by kernel_rfl, by kernel_rfl, by kernel_rfl, by kernel_rfl, .inr (by kernel_rfl), by kernel_rfl⟩
theorem row151 : RowOK Tryz.prog 151 ti151 := ⟨by kernel_rfl, by kernel_rfl, by kernel_rfl, by kernel_rfl, .inr (by kernel_rfl), by kernel_rfl⟩
theorem row152 : RowOK Tryz.prog 152 ⟨.other, 1, 8, [.v .nilFunc], []⟩ := ⟨by kernel_rfl, by kernel_rfl, by kernel_rfl, by kernel_rfl, .inl (by kernel_rfl), by kernel_rfl⟩
theorem row153 : RowOK Tryz.prog 153 ⟨.other, 1, 8, [.v .nilFunc], []⟩ := ⟨by kernel_rfl, by kernel_rfl, by kernel_rfl, by kernel_rfl, .inl (by kernel_rfl), by kernel_rfl⟩
theorem row154 : RowOK Tryz.prog 154 ⟨.other, 1, 8, [.v .nilFunc], []⟩ := ⟨by kernel_rfl, by kernel_rfl, by kernel_rfl, by kernel_rfl, .inl (by kernel_rfl), by kernel_rfl⟩
theorem row155 : RowOK Tryz.prog 155 ti155 := ⟨by kernel_rfl, by kernel_rfl, by kernel_rfl, by kernel_rfl, .inr (by kernel_rfl), by kernel_rfl⟩
theorem row156 : RowOK Tryz.prog 156 ⟨.other, 1, 8, [.v .nilFunc], []⟩ := ⟨by kernel_rfl, by kernel_rfl, by kernel_rfl, by kernel_rfl, .inl (by kernel_rfl), by kernel_rfl⟩
theorem row157 : RowOK Tryz.prog 157 ⟨.other, 1, 8, [.v .nilFunc], []⟩ := ⟨by kernel_rfl, by kernel_rfl, by kernel_rfl, by kernel_rfl, .inl (by kernel_rfl), by kernel_rfl⟩
theorem row158 : RowOK Tryz.prog 158 ⟨.other, 1, 8, [.v .nilFunc], []⟩ := ⟨by kernel_rfl, by kernel_rfl, by kernel_rfl, by kernel_rfl, .inl (by kernel_rfl), by kernel_rfl⟩
theorem row160 : RowOK Tryz.prog 160 ⟨.other, 1, 8, [.v .nilFunc], []⟩ := ⟨by kernel_rfl, by kernel_rfl, by kernel_rfl, by kernel_rfl, .inl (by kernel_rfl), by kernel_rfl⟩
theorem row163 : RowOK Tryz.prog 163 ⟨.other, 1, 8, [.v .nilFunc], []⟩ := ⟨by kernel_rfl, by kernel_rfl, by kernel_rfl, by kernel_rfl, .inl (by kernel_rfl), by kernel_rfl⟩
theorem row164 : RowOK Tryz.prog 164 ⟨.int .u64, 1, 8, [.v (.int .u64 0)], [.int .u64]⟩ := ⟨by kernel_rfl, by kernel_rfl, by kernel_rfl, by kernel_rfl, .inr (by kernel_rfl), by kernel_rfl⟩
theorem row166 : RowOK Tryz.prog 166 ⟨.other, 1, 8, [.v .nilFunc], []⟩ := ⟨by kernel_rfl, by kernel_rfl, by kernel_rfl, by kernel_rfl, .inl (by kernel_rfl), by kernel_rfl⟩
theorem row167 : RowOK Tryz.prog 167 ⟨.other, 1, 8, [.v .nilFunc], []⟩ := ⟨by kernel_rfl, by kernel_rfl, by kernel_rfl, by kernel_rfl, .inl (by kernel_rfl), by kernel_rfl⟩
theorem row168 : RowOK Tryz.prog 168 ⟨.other, 1, 8, [.v .nilFunc], []⟩ := ⟨by kernel_rfl, by kernel_rfl, by kernel_rfl, by kernel_rfl, .inl (by kernel_rfl), by kernel_rfl⟩
theorem row169 : RowOK Tryz.prog 169 ⟨.other, 1, 8, [.v .nilFunc], []⟩ := ⟨by kernel_rfl, by kernel_rfl, by kernel_rfl, by kernel_rfl, .inl (by kernel_rfl), by kernel_rfl⟩
theorem row170 : RowOK Tryz.prog 170 ⟨.other, 1, 8, [.v .nilFunc], []⟩ := ⟨by kernel_rfl, by kernel_rfl, by kernel_rfl, by kernel_rfl, .inl (by kernel_rfl), by kernel_rfl⟩
theorem row171 : RowOK Tryz.prog 171 ⟨.other, 1, 8, [.v .nilFunc], []⟩ := ⟨by kernel_rfl, by kernel_rfl, by kernel_rfl, by kernel_rfl, .inl (by kernel_rfl), by kernel_rfl⟩
theorem row173 : RowOK Tryz.prog 173 ⟨.other, 1, 8, [.v .nilFunc], []⟩ := ⟨by kernel_rfl, by kernel_rfl, by kernel_rfl, by kernel_rfl, .inl (by kernel_rfl), by kernel_rfl⟩
theorem row174 : RowOK Tryz.prog 174 ti174 := ⟨by kernel_rfl, by kernel_rfl, by kernel_rfl, by kernel_rfl, .inr (by kernel_rfl), by kernel_rfl⟩
theorem row175 : RowOK Tryz.prog 175 ti175 := ⟨by kernel_rfl, by kernel_rfl, by kernel_rfl, by kernel_rfl, .inr (by kernel_rfl), by kernel_rfl⟩
theorem row176 : RowOK Tryz.prog 176 ⟨.other, 1, 8, [.v .nilFunc], []⟩ := ⟨by kernel_rfl, by kernel_rfl, by kernel_rfl, by kernel_rfl, .inl (by kernel_rfl), by kernel_rfl⟩
theorem row177 : RowOK Tryz.prog 177 ti177 := ⟨by kernel_rfl, by kernel_rfl, by kernel_rfl, by kernel_rfl, .inr (by kernel_rfl), by kernel_rfl⟩
theorem row178 : RowOK Tryz.prog 178 ⟨.other, 1, 8, [.v .nilFunc], []⟩ := ⟨by kernel_rfl, by kernel_rfl, by kernel_rfl, by kernel_rfl, .inl (by kernel_rfl), by kernel_rfl⟩
theorem row179 : RowOK Tryz.prog 179 ⟨.other, 1, 8, [.v .nilFunc], []⟩ := ⟨by kernel_rfl, by kernel_rfl, by kernel_rfl, by kernel_rfl, .inl (by kernel_rfl), by kernel_rfl⟩
theorem row180 : RowOK Tryz.prog 180 ⟨.other, 1, 8, [.v .nilFunc], []⟩ := ⟨by kernel_rfl, by kernel_rfl, by kernel_rfl, by kernel_rfl, .inl (by kernel_rfl), by kernel_rfl⟩
theorem row182 : RowOK Tryz.prog 182 ⟨.other, 1, 8, [.v .nilFunc], []⟩ := ⟨by kernel_rfl, by kernel_rfl, by kernel_rfl, by kernel_rfl, .inl (by kernel_rfl), by kernel_rfl⟩
theorem row183 : RowOK Tryz.prog 183 ⟨.other, 1, 8, [.v .nilFunc], []⟩ := ⟨by kernel_rfl, by kernel_rfl, by kernel_rfl, by kernel_rfl, .inl (by kernel_rfl), by kernel_rfl⟩
theorem row184 : RowOK Tryz.prog 184 ⟨.other, 1, 8, [.v .nilFunc], []⟩ := ⟨by kernel_rfl, by kernel_rfl, by kernel_rfl, by kernel_rfl, .inl (by kernel_rfl), by kernel_rfl⟩
theorem row185 : RowOK Tryz.prog 185 ⟨.other, 1, 8, [.v .nilFunc], []⟩ := ⟨by kernel_rfl, by kernel_rfl, by kernel_rfl, by kernel_rfl, .inl (by kernel_rfl), by kernel_rfl⟩
theorem row186 : RowOK Tryz.prog 186 ⟨.other, 1, 8, [.v .nilFunc], []⟩ := ⟨by kernel_rfl, by kernel_rfl, by kernel_rfl, by kernel_rfl, .inl (by kernel_rfl), by kernel_rfl⟩
theorem row187 : RowOK Tryz.prog 187 ⟨.other, 1, 8, [.v .nilFunc], []⟩ := ⟨by kernel_rfl, by kernel_rfl, by kernel_rfl, by kernel_rfl, .inl (by kernel_rfl), by kernel_rfl⟩
theorem row188 : RowOK Tryz.prog 188 ⟨.other, 1, 8, [.v .nilFunc], []⟩ := ⟨by kernel_rfl, by kernel_rfl, by kernel_rfl, by kernel_rfl, .inl (by kernel_rfl), by kernel_rfl⟩
theorem row190 : RowOK Tryz.prog 190 ⟨.other, 1, 8, [.v .nilFunc], []⟩ := ⟨by kernel_rfl, by kernel_rfl, by kernel_rfl, by kernel_rfl, .inl (by kernel_rfl), by kernel_rfl⟩
theorem row191 : RowOK Tryz.prog 191 ⟨.other, 1, 8, [.v .nilFunc], []⟩ := ⟨by kernel_rfl, by kernel_rfl, by kernel_rfl, by kernel_rfl, .inl (by kernel_rfl), by kernel_rfl⟩
theorem row192 : RowOK Tryz.prog 192 ⟨.other, 1, 8, [.v .nilFunc], []⟩ := ⟨by kernel_rfl, by kernel_rfl, by kernel_rfl, by kernel_rfl, .inl (by kernel_rfl), by kernel_rfl⟩
theorem row193 : RowOK Tryz.prog 193 ⟨.other, 1, 8, [.v .nilFunc], []⟩ := ⟨by kernel_rfl, by kernel_rfl, by kernel_rfl, by kernel_rfl, .inl (by kernel_rfl), by kernel_rfl⟩
theorem row194 : RowOK Tryz.prog 194 ⟨.other, 1, 8, [.v .nilFunc], []⟩ := ⟨by kernel_rfl, by kernel_rfl, by kernel_rfl, by kernel_rfl, .inl (by kernel_rfl), by kernel_rfl⟩
theorem row195 : RowOK Tryz.prog 195 ⟨.other, 1, 8, [.v .nilFunc], []⟩ := ⟨by kernel_rfl, by kernel_rfl, by kernel_rfl, by kernel_rfl, .inl (by kernel_rfl), by kernel_rfl⟩
theorem row197 : RowOK Tryz.prog 197 ⟨.iface, 1, 16, [.v .nilIface], []⟩ := ⟨by kernel_rfl, by kernel_rfl, by kernel_rfl, by kernel_rfl, .inl (by kernel_rfl), by kernel_rfl⟩
theorem row198 : RowOK Tryz.prog 198 ⟨.iface, 1, 16, [.v .nilIface], []⟩ := ⟨by kernel_rfl, by kernel_rfl, by kernel_rfl, by kernel_rfl, .inl (by kernel_rfl), by kernel_rfl⟩
theorem row200 : RowOK Tryz.prog 200 ⟨.other, 1, 8, [.v .nilFunc], []⟩ := ⟨by kernel_rfl, by kernel_rfl, by kernel_rfl, by kernel_rfl, .inl (by kernel_rfl), by kernel_rfl⟩
theorem row203 : RowOK Tryz.prog 203 ⟨.struct [(0, 1, 67), (1, 1, 3)], 2, 32, [.slc [.int .u8], .v (.int .i64 0)], []⟩ := ⟨by kernel_rfl, by kernel_rfl, by kernel_rfl, by kernel_rfl, .inl (by kernel_rfl), by kernel_rfl⟩
theorem row204 : RowOK Tryz.prog 204 ⟨.struct [(0, 1, 67), (1, 1, 3)], 2, 32, [.slc [.int .u8], .v (.int .i64 0)], []⟩ := ⟨by kernel_rfl, by kernel_rfl, by kernel_rfl, by kernel_rfl, .inl (by kernel_rfl), by kernel_rfl⟩
theorem row207 : RowOK Tryz.prog 207 ⟨.other, 1, 8, [.v .nilFunc], []⟩ := ⟨by kernel_rfl, by kernel_rfl, by kernel_rfl, by kernel_rfl, .inl (by kernel_rfl), by kernel_rfl⟩
theorem row213 : RowOK Tryz.prog 213 ⟨.other, 1, 8, [.v .nilFunc], []⟩ := ⟨by kernel_rfl, by kernel_rfl, by kernel_rfl, by kernel_rfl, .inl (by kernel_rfl), by kernel_rfl⟩
theorem row215 : RowOK Tryz.prog 215 ⟨.other, 1, 8, [.v .nilFunc], []⟩ := ⟨by kernel_rfl, by kernel_rfl, by kernel_rfl, by kernel_rfl, .inl (by kernel_rfl), by kernel_rfl⟩
theorem row216 : RowOK Tryz.prog 216 ⟨.other, 1, 8, [.v .nilFunc], []⟩ := ⟨by kernel_rfl, by kernel_rfl, by kernel_rfl, by kernel_rfl, .inl (by kernel_rfl), by kernel_rfl⟩
theorem row218 : RowOK Tryz.prog 218 ⟨.other, 1, 8, [.v .nilFunc], []⟩ := ⟨by kernel_rfl, by kernel_rfl, by kernel_rfl, by kernel_rfl, .inl (by kernel_rfl), by kernel_rfl⟩
theorem row220 : RowOK Tryz.prog 220 ⟨.other, 1, 8, [.v .nilFunc], []⟩ := ⟨by kernel_rfl, by kernel_rfl, by kernel_rfl, by kernel_rfl, .inl (by kernel_rfl), by kernel_rfl⟩
theorem row221 : RowOK Tryz.prog 221 ⟨.other, 1, 8, [.v .nilFunc], []⟩ := ⟨by kernel_rfl, by kernel_rfl, by kernel_rfl, by kernel_rfl, .inl (by kernel_rfl), by kernel_rfl⟩
theorem row222 : RowOK Tryz.prog 222 ⟨.array 3 3, 3, 24, [.v (.int .i64 0), .v (.int .i64 0), .v (.int .i64 0)], [.int .i64, .int .i64, .int .i64]⟩ := ⟨by kernel_rfl, by kernel_rfl, by kernel_rfl, by kernel_rfl, .inr (by kernel_rfl), by kernel_rfl⟩
theorem row223 : RowOK Tryz.prog 223 ⟨.other, 1, 8, [.v (.pointer none)], []⟩ := ⟨by kernel_rfl, by kernel_rfl, by kernel_rfl, by kernel_rfl, .inl (by kernel_rfl), by kernel_rfl⟩
theorem row224 : RowOK Tryz.prog 224 ⟨.struct [(0, 1, 223), (1, 1, 67)], 2, 32, [.v (.pointer none), .slc [.int .u8]], []⟩ := ⟨by kernel_rfl, by kernel_rfl, by kernel_rfl, by kernel_rfl, .inl (by kernel_rfl), by kernel_rfl⟩
theorem row225 : RowOK Tryz.prog 225 ⟨.struct [(0, 1, 223), (1, 1, 67)], 2, 32, [.v (.pointer none), .slc [.int .u8]], []⟩ := ⟨by kernel_rfl, by kernel_rfl, by kernel_rfl, by kernel_rfl, .inl (by kernel_rfl), by kernel_rfl⟩
theorem row226 : RowOK Tryz.prog 226 ⟨.other, 1, 8, [.v .nilFunc], []⟩ := ⟨by kernel_rfl, by kernel_rfl, by kernel_rfl, by kernel_rfl, .inl (by kernel_rfl), by kernel_rfl⟩
theorem row227 : RowOK Tryz.prog 227 ⟨.other, 1, 8, [.v .nilFunc], []⟩ := ⟨by kernel_rfl, by kernel_rfl, by kernel_rfl, by kernel_rfl, .inl (by kernel_rfl), by kernel_rfl⟩
theorem row237 : RowOK Tryz.prog 237 ⟨.other, 1, 8, [.v .nilFunc], []⟩ := ⟨by kernel_rfl, by kernel_rfl, by kernel_rfl, by kernel_rfl, .inl (by kernel_rfl), by kernel_rfl⟩
theorem row238 : RowOK Tryz.prog 238 ⟨.other, 1, 8, [.v .nilFunc], []⟩ := ⟨by kernel_rfl, by kernel_rfl, by kernel_rfl, by kernel_rfl, .inl (by kernel_rfl), by kernel_rfl⟩
theorem row239 : RowOK Tryz.prog 239 ⟨.int .u32, 1, 4, [.v (.int .u32 0)], [.int .u32]⟩ := ⟨by kernel_rfl, by kernel_rfl, by kernel_rfl, by kernel_rfl, .inr (by kernel_rfl), by kernel_rfl⟩
theorem row243 : RowOK Tryz.prog 243 ⟨.other, 1, 8, [.v .nilFunc], []⟩ := ⟨by kernel_rfl, by kernel_rfl, by kernel_rfl, by kernel_rfl, .inl (by kernel_rfl), by kernel_rfl⟩
theorem row244 : RowOK Tryz.prog 244 ⟨.other, 1, 8, [.v .nilFunc], []⟩ := ⟨by kernel_rfl, by kernel_rfl, by kernel_rfl, by kernel_rfl, .inl (by kernel_rfl), by kernel_rfl⟩
theorem row249 : RowOK Tryz.prog 249 ⟨.other, 1, 8, [.v .nilFunc], []⟩ := ⟨by kernel_rfl, by kernel_rfl, by kernel_rfl, by kernel_rfl, .inl (by kernel_rfl), by kernel_rfl⟩
theorem row251 : RowOK Tryz.prog 251 ⟨.other, 1, 8, [.v .nilFunc], []⟩ := ⟨by kernel_rfl, by kernel_rfl, by kernel_rfl, by kernel_rfl, .inl (by kernel_rfl), by kernel_rfl⟩
theorem row253 : RowOK Tryz.prog 253 ⟨.other, 1, 8, [.v .nilFunc], []⟩ := ⟨by kernel_rfl, by kernel_rfl, by kernel_rfl, by kernel_rfl, .inl (by kernel_rfl), by kernel_rfl⟩
theorem row256 : RowOK Tryz.prog 256 ⟨.other, 1, 8, [.v .nilFunc], []⟩ := ⟨by kernel_rfl, by kernel_rfl, by kernel_rfl, by kernel_rfl, .inl (by kernel_rfl), by kernel_rfl⟩
theorem row257 : RowOK Tryz.prog 257 ⟨.other, 1, 8, [.v .nilFunc], []⟩ := ⟨by kernel_rfl, by kernel_rfl, by kernel_rfl, by kernel_rfl, .inl (by kernel_rfl), by kernel_rfl⟩
theorem row261 : RowOK Tryz.prog 261 ⟨.other, 1, 8, [.v .nilFunc], []⟩ := ⟨by kernel_rfl, by kernel_rfl, by kernel_rfl, by kernel_rfl, .inl (by kernel_rfl), by kernel_rfl⟩
theorem row262 : RowOK Tryz.prog 262 ⟨.other, 1, 8, [.v .nilFunc], []⟩ := ⟨by kernel_rfl, by kernel_rfl, by kernel_rfl, by kernel_rfl, .inl (by kernel_rfl), by kernel_rfl⟩
theorem row263 : RowOK Tryz.prog 263 ⟨.other, 1, 8, [.v (.pointer none)], []⟩ := ⟨by kernel_rfl, by kernel_rfl, by kernel_rfl, by kernel_rfl, .inl (by kernel_rfl), by kernel_rfl⟩
theorem row342 : RowOK Tryz.prog 342 ⟨.other, 1, 8, [.v .nilFunc], []⟩ := ⟨by kernel_rfl, by kernel_rfl, by kernel_rfl, by kernel_rfl, .inl (by kernel_rfl), by kernel_rfl⟩
theorem row346 : RowOK Tryz.prog 346 ti346 := ⟨by kernel_rfl, by kernel_rfl, by kernel_rfl, by kernel_rfl, .inl (by kernel_rfl), by kernel_rfl⟩
theorem row347 : RowOK Tryz.prog 347 ti347 := ⟨by kernel_rfl, by kernel_rfl, by kernel_rfl, by kernel_rfl, .inl (by kernel_rfl), by kernel_rfl⟩
theorem row348 : RowOK Tryz.prog 348 ⟨.array 0 16, 0, 0, [], []⟩ := ⟨by kernel_rfl, by kernel_rfl, by kernel_rfl, by kernel_rfl, .inl (by kernel_rfl), by kernel_rfl⟩
theorem row349 : RowOK Tryz.prog 349 ⟨.struct [(0, 0, 348)], 0, 0, [], []⟩ := ⟨by kernel_rfl, by kernel_rfl, by kernel_rfl, by kernel_rfl, .inl (by kernel_rfl), by kernel_rfl⟩
theorem row350 : RowOK Tryz.prog 350 ⟨.struct [(0, 0, 348)], 0, 0, [], []⟩ := ⟨by kernel_rfl, by kernel_rfl, by kernel_rfl, by kernel_rfl, .inl (by kernel_rfl), by kernel_rfl⟩
theorem row352 : RowOK Tryz.prog 352 ⟨.int .u8, 1, 1, [.v (.int .u8 0)], [.int .u8]⟩ := ⟨by kernel_rfl, by kernel_rfl, by kernel_rfl, by kernel_rfl, .inr (by kernel_rfl), by kernel_rfl⟩
theorem row353 : RowOK Tryz.prog 353 ⟨.int .u8, 1, 1, [.v (.int .u8 0)], [.int .u8]⟩ := ⟨by kernel_rfl, by kernel_rfl, by kernel_rfl, by kernel_rfl, .inr (by kernel_rfl), by kernel_rfl⟩
theorem row354 : RowOK Tryz.prog 354 ⟨.other, 1, 8, [.v .nilFunc], []⟩ := ⟨by kernel_rfl, by kernel_rfl, by kernel_rfl, by kernel_rfl, .inl (by kernel_rfl), by kernel_rfl⟩
theorem row355 : RowOK Tryz.prog 355 ⟨.int .i32, 1, 4, [.v (.int .i32 0)], [.int .i32]⟩ := ⟨by kernel_rfl, by kernel_rfl, by kernel_rfl, by kernel_rfl, .inr (by kernel_rfl), by kernel_rfl⟩
theorem row356 : RowOK Tryz.prog 356 ⟨.int .i32, 1, 4, [.v (.int .i32 0)], [.int .i32]⟩ := ⟨by kernel_rfl, by kernel_rfl, by kernel_rfl, by kernel_rfl, .inr (by kernel_rfl), by kernel_rfl⟩
theorem row357 : RowOK Tryz.prog 357 ti357 := ⟨by kernel_rfl, by kernel_rfl, by kernel_rfl, by kernel_rfl, .inl (by kernel_rfl), by kernel_rfl⟩
theorem row358 : RowOK Tryz.prog 358 ti358 := ⟨by kernel_rfl, by kernel_rfl, by kernel_rfl, by kernel_rfl, .inl (by kernel_rfl), by kernel_rfl⟩
theorem ttOK : TTOK Tryz.prog tt := RowsOK.all tt ⟨row1, row2, row3, row4, row5, row6, row7, row8, row9, row10, row11, row12, row13, row14, row15, row16, row17, row18, row19, row20, row21, row22, row23, row24, row25, row26, row27, row28, row29, row30, row31, row32, row33, row34, row35, row36, row37, row38, row39, row40, row41, row43, row44, row45, row46, row47, row48, row49, row50, row51, row54, row55, row56, row57, row59, row60, row61, row65, row66, row67, row69, row70, row71, row72, row74, row75, row77, row78, row79, row80, row82, row83, row84, row85, row86, row87, row88, row90, row91, row93, row94, row95, row96, row97, row99, row104, row106, row107, row108, row109, row110, row111, row112, row113, row114, row115, row116, row117, row118, row119, row120, row121, row122, row123, row125, row126, row127, row128, row129, row131, row132, row135, row137, row138, row139, row141, row142, row143, row144, row145, row146, row147, row148, row149, row150, row151, row152, row153, row154, row155, row156, row157, row158, row160, row163, row164, row166, row167, row168, row169, row170, row171, row173, row174, row175, row176, row177, row178, row179, row180, row182, row183, row184, row185, row186, row187, row188, row190, row191, row192, row193, row194, row195, row197, row198, row200, row203, row204, row207, row213, row215, row216, row218, row220, row221, row222, row223, row224, row225, row226, row227, row237, row238, row239, row243, row244, row249, row251, row253, row256, row257, row261, row262, row263, row342, row346, row347, row348, row349, row350, row352, row353, row354, row355, row356, row357, row358, trivial⟩
def E0 : Env := ⟨tt, [], [86, 84], .skip, []⟩
theorem eqsOK : EqsOK Tryz.prog E0 := eqs_ok (eqs_one (ti := ⟨.struct [(0, 1, 3), (1, 1, 3), (2, 1, 3)], 3, 24, [.v (.int .i64 0), .v (.int .i64 0), .v (.int .i64 0)], [.int .i64, .int .i64, .int .i64]⟩) (by kernel_rfl) ⟨by kernel_rfl, by kernel_rfl, by kernel_rfl⟩ (eqs_one (ti := ⟨.struct [(0, 1, 3), (1, 1, 3), (2, 1, 3)], 3, 24, [.v (.int .i64 0), .v (.int .i64 0), .v (.int .i64 0)], [.int .i64, .int .i64, .int .i64]⟩) (by kernel_rfl) ⟨by kernel_rfl, by kernel_rfl, by kernel_rfl⟩ (trivial)))
theorem ok0 : Ok Tryz.prog E0 := ⟨ttOK, eqsOK, by kernel_rfl⟩
end Go.Proofs.YtkjnijddbiconaaGreatDoor.Ev

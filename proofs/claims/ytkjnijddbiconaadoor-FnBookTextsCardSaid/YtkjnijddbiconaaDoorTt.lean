/- The table of the program's types: each row says what the program's own table says. -/
import Derived.Test.YtkjnijddbiconaaDoorEvB
import Derived.Test.YtkjnijddbiconaaDoorProg
namespace Go.Proofs.YtkjnijddbiconaaDoor.Ev
open Go
set_option maxRecDepth 100000
def ti7 : TI := ⟨.struct [(0, 1, 2), (1, 1, 3), (2, 1, 4), (3, 1, 6)], 4, 24, [.v (.int .i64 0), .v (.int .i64 0), .v (.bool false), .v (.int .u8 0)], [.int .i64, .int .i64, .bool, .int .u8]⟩
def ti8 : TI := ⟨.struct [(0, 1, 2), (1, 1, 3), (2, 1, 4), (3, 1, 6)], 4, 24, [.v (.int .i64 0), .v (.int .i64 0), .v (.bool false), .v (.int .u8 0)], [.int .i64, .int .i64, .bool, .int .u8]⟩
def ti36 : TI := ⟨.array 8 9, 8, 128, [.v (.string ByteArray.empty), .v (.string ByteArray.empty), .v (.string ByteArray.empty), .v (.string ByteArray.empty), .v (.string ByteArray.empty), .v (.string ByteArray.empty), .v (.string ByteArray.empty), .v (.string ByteArray.empty)], [.str, .str, .str, .str, .str, .str, .str, .str]⟩
def ti37 : TI := ⟨.struct [(0, 1, 9), (1, 1, 3), (2, 1, 9), (3, 8, 36)], 11, 168, [.v (.string ByteArray.empty), .v (.int .i64 0), .v (.string ByteArray.empty), .v (.string ByteArray.empty), .v (.string ByteArray.empty), .v (.string ByteArray.empty), .v (.string ByteArray.empty), .v (.string ByteArray.empty), .v (.string ByteArray.empty), .v (.string ByteArray.empty), .v (.string ByteArray.empty)], [.str, .int .i64, .str, .str, .str, .str, .str, .str, .str, .str, .str]⟩
def ti38 : TI := ⟨.struct [(0, 1, 9), (1, 1, 3), (2, 1, 9), (3, 8, 36)], 11, 168, [.v (.string ByteArray.empty), .v (.int .i64 0), .v (.string ByteArray.empty), .v (.string ByteArray.empty), .v (.string ByteArray.empty), .v (.string ByteArray.empty), .v (.string ByteArray.empty), .v (.string ByteArray.empty), .v (.string ByteArray.empty), .v (.string ByteArray.empty), .v (.string ByteArray.empty)], [.str, .int .i64, .str, .str, .str, .str, .str, .str, .str, .str, .str]⟩
def ti69 : TI := ⟨.struct [(0, 1, 3), (1, 1, 3), (2, 1, 3)], 3, 24, [.v (.int .i64 0), .v (.int .i64 0), .v (.int .i64 0)], [.int .i64, .int .i64, .int .i64]⟩
def ti70 : TI := ⟨.struct [(0, 1, 3), (1, 1, 3), (2, 1, 3)], 3, 24, [.v (.int .i64 0), .v (.int .i64 0), .v (.int .i64 0)], [.int .i64, .int .i64, .int .i64]⟩
def ti114 : TI := ⟨.struct [(0, 1, 3), (1, 1, 9), (2, 1, 9), (3, 1, 3), (4, 1, 9)], 5, 64, [.v (.int .i64 0), .v (.string ByteArray.empty), .v (.string ByteArray.empty), .v (.int .i64 0), .v (.string ByteArray.empty)], [.int .i64, .str, .str, .int .i64, .str]⟩
def ti115 : TI := ⟨.struct [(0, 1, 3), (1, 1, 9), (2, 1, 9), (3, 1, 3), (4, 1, 9)], 5, 64, [.v (.int .i64 0), .v (.string ByteArray.empty), .v (.string ByteArray.empty), .v (.int .i64 0), .v (.string ByteArray.empty)], [.int .i64, .str, .str, .int .i64, .str]⟩
def ti152 : TI := ⟨.array 256 4, 256, 256, [.v (.bool false), .v (.bool false), .v (.bool false), .v (.bool false), .v (.bool false), .v (.bool false), .v (.bool false), .v (.bool false), .v (.bool false), .v (.bool false), .v (.bool false), .v (.bool false), .v (.bool false), .v (.bool false), .v (.bool false), .v (.bool false), .v (.bool false), .v (.bool false), .v (.bool false), .v (.bool false), .v (.bool false), .v (.bool false), .v (.bool false), .v (.bool false), .v (.bool false), .v (.bool false), .v (.bool false), .v (.bool false), .v (.bool false), .v (.bool false), .v (.bool false), .v (.bool false), .v (.bool false), .v (.bool false), .v (.bool false), .v (.bool false), .v (.bool false), .v (.bool false), .v (.bool false), .v (.bool false), .v (.bool false), .v (.bool false), .v (.bool false), .v (.bool false), .v (.bool false), .v (.bool false), .v (.bool false), .v (.bool false), .v (.bool false), .v (.bool false), .v (.bool false), .v (.bool false), .v (.bool false), .v (.bool false), .v (.bool false), .v (.bool false), .v (.bool false), .v (.bool false), .v (.bool false), .v (.bool false), .v (.bool false), .v (.bool false), .v (.bool false), .v (.bool false), .v (.bool false), .v (.bool false), .v (.bool false), .v (.bool false), .v (.bool false), .v (.bool false), .v (.bool false), .v (.bool false), .v (.bool false), .v (.bool false), .v (.bool false), .v (.bool false), .v (.bool false), .v (.bool false), .v (.bool false), .v (.bool false), .v (.bool false), .v (.bool false), .v (.bool false), .v (.bool false), .v (.bool false), .v (.bool false), .v (.bool false), .v (.bool false), .v (.bool false), .v (.bool false), .v (.bool false), .v (.bool false), .v (.bool false), .v (.bool false), .v (.bool false), .v (.bool false), .v (.bool false), .v (.bool false), .v (.bool false), .v (.bool false), .v (.bool false), .v (.bool false), .v (.bool false), .v (.bool false), .v (.bool false), .v (.bool false), .v (.bool false), .v (.bool false), .v (.bool false), .v (.bool false), .v (.bool false), .v (.bool false), .v (.bool false), .v (.bool false), .v (.bool false), .v (.bool false), .v (.bool false), .v (.bool false), .v (.bool false), .v (.bool false), .v (.bool false), .v (.bool false), .v (.bool false), .v (.bool false), .v (.bool false), .v (.bool false), .v (.bool false), .v (.bool false), .v (.bool false), .v (.bool false), .v (.bool false), .v (.bool false), .v (.bool false), .v (.bool false), .v (.bool false), .v (.bool false), .v (.bool false), .v (.bool false), .v (.bool false), .v (.bool false), .v (.bool false), .v (.bool false), .v (.bool false), .v (.bool false), .v (.bool false), .v (.bool false), .v (.bool false), .v (.bool false), .v (.bool false), .v (.bool false), .v (.bool false), .v (.bool false), .v (.bool false), .v (.bool false), .v (.bool false), .v (.bool false), .v (.bool false), .v (.bool false), .v (.bool false), .v (.bool false), .v (.bool false), .v (.bool false), .v (.bool false), .v (.bool false), .v (.bool false), .v (.bool false), .v (.bool false), .v (.bool false), .v (.bool false), .v (.bool false), .v (.bool false), .v (.bool false), .v (.bool false), .v (.bool false), .v (.bool false), .v (.bool false), .v (.bool false), .v (.bool false), .v (.bool false), .v (.bool false), .v (.bool false), .v (.bool false), .v (.bool false), .v (.bool false), .v (.bool false), .v (.bool false), .v (.bool false), .v (.bool false), .v (.bool false), .v (.bool false), .v (.bool false), .v (.bool false), .v (.bool false), .v (.bool false), .v (.bool false), .v (.bool false), .v (.bool false), .v (.bool false), .v (.bool false), .v (.bool false), .v (.bool false), .v (.bool false), .v (.bool false), .v (.bool false), .v (.bool false), .v (.bool false), .v (.bool false), .v (.bool false), .v (.bool false), .v (.bool false), .v (.bool false), .v (.bool false), .v (.bool false), .v (.bool false), .v (.bool false), .v (.bool false), .v (.bool false), .v (.bool false), .v (.bool false), .v (.bool false), .v (.bool false), .v (.bool false), .v (.bool false), .v (.bool false), .v (.bool false), .v (.bool false), .v (.bool false), .v (.bool false), .v (.bool false), .v (.bool false), .v (.bool false), .v (.bool false), .v (.bool false), .v (.bool false), .v (.bool false), .v (.bool false), .v (.bool false), .v (.bool false), .v (.bool false), .v (.bool false), .v (.bool false), .v (.bool false), .v (.bool false), .v (.bool false), .v (.bool false), .v (.bool false), .v (.bool false), .v (.bool false), .v (.bool false), .v (.bool false), .v (.bool false), .v (.bool false), .v (.bool false), .v (.bool false), .v (.bool false), .v (.bool false)], [.bool, .bool, .bool, .bool, .bool, .bool, .bool, .bool, .bool, .bool, .bool, .bool, .bool, .bool, .bool, .bool, .bool, .bool, .bool, .bool, .bool, .bool, .bool, .bool, .bool, .bool, .bool, .bool, .bool, .bool, .bool, .bool, .bool, .bool, .bool, .bool, .bool, .bool, .bool, .bool, .bool, .bool, .bool, .bool, .bool, .bool, .bool, .bool, .bool, .bool, .bool, .bool, .bool, .bool, .bool, .bool, .bool, .bool, .bool, .bool, .bool, .bool, .bool, .bool, .bool, .bool, .bool, .bool, .bool, .bool, .bool, .bool, .bool, .bool, .bool, .bool, .bool, .bool, .bool, .bool, .bool, .bool, .bool, .bool, .bool, .bool, .bool, .bool, .bool, .bool, .bool, .bool, .bool, .bool, .bool, .bool, .bool, .bool, .bool, .bool, .bool, .bool, .bool, .bool, .bool, .bool, .bool, .bool, .bool, .bool, .bool, .bool, .bool, .bool, .bool, .bool, .bool, .bool, .bool, .bool, .bool, .bool, .bool, .bool, .bool, .bool, .bool, .bool, .bool, .bool, .bool, .bool, .bool, .bool, .bool, .bool, .bool, .bool, .bool, .bool, .bool, .bool, .bool, .bool, .bool, .bool, .bool, .bool, .bool, .bool, .bool, .bool, .bool, .bool, .bool, .bool, .bool, .bool, .bool, .bool, .bool, .bool, .bool, .bool, .bool, .bool, .bool, .bool, .bool, .bool, .bool, .bool, .bool, .bool, .bool, .bool, .bool, .bool, .bool, .bool, .bool, .bool, .bool, .bool, .bool, .bool, .bool, .bool, .bool, .bool, .bool, .bool, .bool, .bool, .bool, .bool, .bool, .bool, .bool, .bool, .bool, .bool, .bool, .bool, .bool, .bool, .bool, .bool, .bool, .bool, .bool, .bool, .bool, .bool, .bool, .bool, .bool, .bool, .bool, .bool, .bool, .bool, .bool, .bool, .bool, .bool, .bool, .bool, .bool, .bool, .bool, .bool, .bool, .bool, .bool, .bool, .bool, .bool, .bool, .bool, .bool, .bool, .bool, .bool, .bool, .bool, .bool, .bool, .bool, .bool, .bool, .bool, .bool, .bool, .bool, .bool]⟩
def ti153 : TI := ⟨.array 256 4, 256, 256, [.v (.bool false), .v (.bool false), .v (.bool false), .v (.bool false), .v (.bool false), .v (.bool false), .v (.bool false), .v (.bool false), .v (.bool false), .v (.bool false), .v (.bool false), .v (.bool false), .v (.bool false), .v (.bool false), .v (.bool false), .v (.bool false), .v (.bool false), .v (.bool false), .v (.bool false), .v (.bool false), .v (.bool false), .v (.bool false), .v (.bool false), .v (.bool false), .v (.bool false), .v (.bool false), .v (.bool false), .v (.bool false), .v (.bool false), .v (.bool false), .v (.bool false), .v (.bool false), .v (.bool false), .v (.bool false), .v (.bool false), .v (.bool false), .v (.bool false), .v (.bool false), .v (.bool false), .v (.bool false), .v (.bool false), .v (.bool false), .v (.bool false), .v (.bool false), .v (.bool false), .v (.bool false), .v (.bool false), .v (.bool false), .v (.bool false), .v (.bool false), .v (.bool false), .v (.bool false), .v (.bool false), .v (.bool false), .v (.bool false), .v (.bool false), .v (.bool false), .v (.bool false), .v (.bool false), .v (.bool false), .v (.bool false), .v (.bool false), .v (.bool false), .v (.bool false), .v (.bool false), .v (.bool false), .v (.bool false), .v (.bool false), .v (.bool false), .v (.bool false), .v (.bool false), .v (.bool false), .v (.bool false), .v (.bool false), .v (.bool false), .v (.bool false), .v (.bool false), .v (.bool false), .v (.bool false), .v (.bool false), .v (.bool false), .v (.bool false), .v (.bool false), .v (.bool false), .v (.bool false), .v (.bool false), .v (.bool false), .v (.bool false), .v (.bool false), .v (.bool false), .v (.bool false), .v (.bool false), .v (.bool false), .v (.bool false), .v (.bool false), .v (.bool false), .v (.bool false), .v (.bool false), .v (.bool false), .v (.bool false), .v (.bool false), .v (.bool false), .v (.bool false), .v (.bool false), .v (.bool false), .v (.bool false), .v (.bool false), .v (.bool false), .v (.bool false), .v (.bool false), .v (.bool false), .v (.bool false), .v (.bool false), .v (.bool false), .v (.bool false), .v (.bool false), .v (.bool false), .v (.bool false), .v (.bool false), .v (.bool false), .v (.bool false), .v (.bool false), .v (.bool false), .v (.bool false), .v (.bool false), .v (.bool false), .v (.bool false), .v (.bool false), .v (.bool false), .v (.bool false), .v (.bool false), .v (.bool false), .v (.bool false), .v (.bool false), .v (.bool false), .v (.bool false), .v (.bool false), .v (.bool false), .v (.bool false), .v (.bool false), .v (.bool false), .v (.bool false), .v (.bool false), .v (.bool false), .v (.bool false), .v (.bool false), .v (.bool false), .v (.bool false), .v (.bool false), .v (.bool false), .v (.bool false), .v (.bool false), .v (.bool false), .v (.bool false), .v (.bool false), .v (.bool false), .v (.bool false), .v (.bool false), .v (.bool false), .v (.bool false), .v (.bool false), .v (.bool false), .v (.bool false), .v (.bool false), .v (.bool false), .v (.bool false), .v (.bool false), .v (.bool false), .v (.bool false), .v (.bool false), .v (.bool false), .v (.bool false), .v (.bool false), .v (.bool false), .v (.bool false), .v (.bool false), .v (.bool false), .v (.bool false), .v (.bool false), .v (.bool false), .v (.bool false), .v (.bool false), .v (.bool false), .v (.bool false), .v (.bool false), .v (.bool false), .v (.bool false), .v (.bool false), .v (.bool false), .v (.bool false), .v (.bool false), .v (.bool false), .v (.bool false), .v (.bool false), .v (.bool false), .v (.bool false), .v (.bool false), .v (.bool false), .v (.bool false), .v (.bool false), .v (.bool false), .v (.bool false), .v (.bool false), .v (.bool false), .v (.bool false), .v (.bool false), .v (.bool false), .v (.bool false), .v (.bool false), .v (.bool false), .v (.bool false), .v (.bool false), .v (.bool false), .v (.bool false), .v (.bool false), .v (.bool false), .v (.bool false), .v (.bool false), .v (.bool false), .v (.bool false), .v (.bool false), .v (.bool false), .v (.bool false), .v (.bool false), .v (.bool false), .v (.bool false), .v (.bool false), .v (.bool false), .v (.bool false), .v (.bool false), .v (.bool false), .v (.bool false), .v (.bool false), .v (.bool false), .v (.bool false), .v (.bool false), .v (.bool false), .v (.bool false), .v (.bool false), .v (.bool false), .v (.bool false), .v (.bool false), .v (.bool false), .v (.bool false), .v (.bool false), .v (.bool false), .v (.bool false), .v (.bool false), .v (.bool false), .v (.bool false), .v (.bool false), .v (.bool false), .v (.bool false), .v (.bool false), .v (.bool false), .v (.bool false)], [.bool, .bool, .bool, .bool, .bool, .bool, .bool, .bool, .bool, .bool, .bool, .bool, .bool, .bool, .bool, .bool, .bool, .bool, .bool, .bool, .bool, .bool, .bool, .bool, .bool, .bool, .bool, .bool, .bool, .bool, .bool, .bool, .bool, .bool, .bool, .bool, .bool, .bool, .bool, .bool, .bool, .bool, .bool, .bool, .bool, .bool, .bool, .bool, .bool, .bool, .bool, .bool, .bool, .bool, .bool, .bool, .bool, .bool, .bool, .bool, .bool, .bool, .bool, .bool, .bool, .bool, .bool, .bool, .bool, .bool, .bool, .bool, .bool, .bool, .bool, .bool, .bool, .bool, .bool, .bool, .bool, .bool, .bool, .bool, .bool, .bool, .bool, .bool, .bool, .bool, .bool, .bool, .bool, .bool, .bool, .bool, .bool, .bool, .bool, .bool, .bool, .bool, .bool, .bool, .bool, .bool, .bool, .bool, .bool, .bool, .bool, .bool, .bool, .bool, .bool, .bool, .bool, .bool, .bool, .bool, .bool, .bool, .bool, .bool, .bool, .bool, .bool, .bool, .bool, .bool, .bool, .bool, .bool, .bool, .bool, .bool, .bool, .bool, .bool, .bool, .bool, .bool, .bool, .bool, .bool, .bool, .bool, .bool, .bool, .bool, .bool, .bool, .bool, .bool, .bool, .bool, .bool, .bool, .bool, .bool, .bool, .bool, .bool, .bool, .bool, .bool, .bool, .bool, .bool, .bool, .bool, .bool, .bool, .bool, .bool, .bool, .bool, .bool, .bool, .bool, .bool, .bool, .bool, .bool, .bool, .bool, .bool, .bool, .bool, .bool, .bool, .bool, .bool, .bool, .bool, .bool, .bool, .bool, .bool, .bool, .bool, .bool, .bool, .bool, .bool, .bool, .bool, .bool, .bool, .bool, .bool, .bool, .bool, .bool, .bool, .bool, .bool, .bool, .bool, .bool, .bool, .bool, .bool, .bool, .bool, .bool, .bool, .bool, .bool, .bool, .bool, .bool, .bool, .bool, .bool, .bool, .bool, .bool, .bool, .bool, .bool, .bool, .bool, .bool, .bool, .bool, .bool, .bool, .bool, .bool, .bool, .bool, .bool, .bool, .bool, .bool]⟩
def ti164 : TI := ⟨.struct [(0, 1, 3), (1, 1, 3), (2, 1, 9)], 3, 32, [.v (.int .i64 0), .v (.int .i64 0), .v (.string ByteArray.empty)], [.int .i64, .int .i64, .str]⟩
def ti165 : TI := ⟨.struct [(0, 1, 3), (1, 1, 3), (2, 1, 9)], 3, 32, [.v (.int .i64 0), .v (.int .i64 0), .v (.string ByteArray.empty)], [.int .i64, .int .i64, .str]⟩
def ti203 : TI := ⟨.array 64 5, 64, 64, [.v (.int .u8 0), .v (.int .u8 0), .v (.int .u8 0), .v (.int .u8 0), .v (.int .u8 0), .v (.int .u8 0), .v (.int .u8 0), .v (.int .u8 0), .v (.int .u8 0), .v (.int .u8 0), .v (.int .u8 0), .v (.int .u8 0), .v (.int .u8 0), .v (.int .u8 0), .v (.int .u8 0), .v (.int .u8 0), .v (.int .u8 0), .v (.int .u8 0), .v (.int .u8 0), .v (.int .u8 0), .v (.int .u8 0), .v (.int .u8 0), .v (.int .u8 0), .v (.int .u8 0), .v (.int .u8 0), .v (.int .u8 0), .v (.int .u8 0), .v (.int .u8 0), .v (.int .u8 0), .v (.int .u8 0), .v (.int .u8 0), .v (.int .u8 0), .v (.int .u8 0), .v (.int .u8 0), .v (.int .u8 0), .v (.int .u8 0), .v (.int .u8 0), .v (.int .u8 0), .v (.int .u8 0), .v (.int .u8 0), .v (.int .u8 0), .v (.int .u8 0), .v (.int .u8 0), .v (.int .u8 0), .v (.int .u8 0), .v (.int .u8 0), .v (.int .u8 0), .v (.int .u8 0), .v (.int .u8 0), .v (.int .u8 0), .v (.int .u8 0), .v (.int .u8 0), .v (.int .u8 0), .v (.int .u8 0), .v (.int .u8 0), .v (.int .u8 0), .v (.int .u8 0), .v (.int .u8 0), .v (.int .u8 0), .v (.int .u8 0), .v (.int .u8 0), .v (.int .u8 0), .v (.int .u8 0), .v (.int .u8 0)], [.int .u8, .int .u8, .int .u8, .int .u8, .int .u8, .int .u8, .int .u8, .int .u8, .int .u8, .int .u8, .int .u8, .int .u8, .int .u8, .int .u8, .int .u8, .int .u8, .int .u8, .int .u8, .int .u8, .int .u8, .int .u8, .int .u8, .int .u8, .int .u8, .int .u8, .int .u8, .int .u8, .int .u8, .int .u8, .int .u8, .int .u8, .int .u8, .int .u8, .int .u8, .int .u8, .int .u8, .int .u8, .int .u8, .int .u8, .int .u8, .int .u8, .int .u8, .int .u8, .int .u8, .int .u8, .int .u8, .int .u8, .int .u8, .int .u8, .int .u8, .int .u8, .int .u8, .int .u8, .int .u8, .int .u8, .int .u8, .int .u8, .int .u8, .int .u8, .int .u8, .int .u8, .int .u8, .int .u8, .int .u8]⟩
def ti205 : TI := ⟨.struct [(0, 1, 17), (1, 1, 17), (2, 1, 17), (3, 1, 9)], 4, 40, [.v (.pointer none), .v (.pointer none), .v (.pointer none), .v (.string ByteArray.empty)], []⟩
def ti206 : TI := ⟨.struct [(0, 1, 17), (1, 1, 17), (2, 1, 17), (3, 1, 9)], 4, 40, [.v (.pointer none), .v (.pointer none), .v (.pointer none), .v (.string ByteArray.empty)], []⟩
def ti216 : TI := ⟨.struct [(0, 1, 12), (1, 1, 12), (2, 1, 130), (3, 1, 211), (4, 1, 5), (5, 1, 5), (6, 1, 212), (7, 1, 213), (8, 1, 140), (9, 1, 214), (10, 1, 215)], 11, 48, [.v (.int .u64 0), .v (.int .u64 0), .v (.int .u32 0), .v (.int .u8 0), .v (.int .u8 0), .v (.int .u8 0), .v (.int .u8 0), .v .nilFunc, .v (.pointer none), .v (.int .i32 0), .v (.int .i32 0)], []⟩
def ti217 : TI := ⟨.struct [(0, 1, 12), (1, 1, 12), (2, 1, 130), (3, 1, 211), (4, 1, 5), (5, 1, 5), (6, 1, 212), (7, 1, 213), (8, 1, 140), (9, 1, 214), (10, 1, 215)], 11, 48, [.v (.int .u64 0), .v (.int .u64 0), .v (.int .u32 0), .v (.int .u8 0), .v (.int .u8 0), .v (.int .u8 0), .v (.int .u8 0), .v .nilFunc, .v (.pointer none), .v (.int .i32 0), .v (.int .i32 0)], []⟩
def tt : List (Nat × TI) := [
  (1, ⟨.other, 1, 8, [.v .nilFunc], []⟩),
  (2, ⟨.int .i64, 1, 8, [.v (.int .i64 0)], [.int .i64]⟩),
  (3, ⟨.int .i64, 1, 8, [.v (.int .i64 0)], [.int .i64]⟩),
  (4, ⟨.bool, 1, 1, [.v (.bool false)], [.bool]⟩),
  (5, ⟨.int .u8, 1, 1, [.v (.int .u8 0)], [.int .u8]⟩),
  (6, ⟨.int .u8, 1, 1, [.v (.int .u8 0)], [.int .u8]⟩),
  (7, ti7),
  (8, ti8),
  (9, ⟨.str, 1, 16, [.v (.string ByteArray.empty)], [.str]⟩),
  (10, ⟨.str, 1, 16, [.v (.string ByteArray.empty)], [.str]⟩),
  (11, ⟨.str, 1, 16, [.v (.string ByteArray.empty)], [.str]⟩),
  (12, ⟨.int .u64, 1, 8, [.v (.int .u64 0)], [.int .u64]⟩),
  (13, ⟨.struct [(0, 1, 9), (1, 1, 12)], 2, 24, [.v (.string ByteArray.empty), .v (.int .u64 0)], [.str, .int .u64]⟩),
  (14, ⟨.struct [(0, 1, 9), (1, 1, 12)], 2, 24, [.v (.string ByteArray.empty), .v (.int .u64 0)], [.str, .int .u64]⟩),
  (15, ⟨.other, 1, 8, [.v (.pointer none)], []⟩),
  (16, ⟨.other, 1, 8, [.v (.pointer none)], []⟩),
  (17, ⟨.other, 1, 8, [.v (.pointer none)], []⟩),
  (18, ⟨.struct [(0, 1, 17)], 1, 8, [.v (.pointer none)], []⟩),
  (19, ⟨.struct [(0, 1, 17)], 1, 8, [.v (.pointer none)], []⟩),
  (20, ⟨.iface, 1, 16, [.v .nilIface], []⟩),
  (21, ⟨.int .i32, 1, 4, [.v (.int .i32 0)], [.int .i32]⟩),
  (22, ⟨.slice 5, 1, 24, [.slc [.int .u8]], []⟩),
  (24, ⟨.other, 1, 8, [.v .nilFunc], []⟩),
  (25, ⟨.other, 1, 8, [.v .nilFunc], []⟩),
  (29, ⟨.slice 38, 1, 24, [.slc [.str, .int .i64, .str, .str, .str, .str, .str, .str, .str, .str, .str]], []⟩),
  (30, ⟨.struct [(0, 1, 29)], 1, 24, [.slc [.str, .int .i64, .str, .str, .str, .str, .str, .str, .str, .str, .str]], []⟩),
  (31, ⟨.struct [(0, 1, 29)], 1, 24, [.slc [.str, .int .i64, .str, .str, .str, .str, .str, .str, .str, .str, .str]], []⟩),
  (32, ⟨.other, 1, 8, [.v .nilFunc], []⟩),
  (33, ⟨.slice 9, 1, 24, [.slc [.str]], []⟩),
  (34, ⟨.other, 1, 8, [.v .nilFunc], []⟩),
  (35, ⟨.other, 1, 8, [.v .nilFunc], []⟩),
  (36, ti36),
  (37, ti37),
  (38, ti38),
  (39, ⟨.other, 1, 8, [.v .nilFunc], []⟩),
  (40, ⟨.slice 70, 1, 24, [.slc [.int .i64, .int .i64, .int .i64]], []⟩),
  (41, ⟨.other, 1, 8, [.v .nilFunc], []⟩),
  (42, ⟨.other, 1, 8, [.v .nilFunc], []⟩),
  (43, ⟨.other, 1, 8, [.v .nilFunc], []⟩),
  (46, ⟨.other, 1, 8, [.v .nilFunc], []⟩),
  (47, ⟨.other, 1, 8, [.v .nilFunc], []⟩),
  (48, ⟨.other, 1, 8, [.v (.pointer none)], []⟩),
  (49, ⟨.other, 1, 8, [.v .nilFunc], []⟩),
  (50, ⟨.other, 1, 8, [.v .nilFunc], []⟩),
  (53, ⟨.int .u64, 1, 8, [.v (.int .u64 0)], [.int .u64]⟩),
  (55, ⟨.other, 1, 8, [.v .nilFunc], []⟩),
  (56, ⟨.other, 1, 8, [.v .nilFunc], []⟩),
  (57, ⟨.other, 1, 8, [.v .nilFunc], []⟩),
  (58, ⟨.other, 1, 8, [.v .nilFunc], []⟩),
  (59, ⟨.other, 1, 8, [.v .nilFunc], []⟩),
  (60, ⟨.other, 1, 8, [.v .nilFunc], []⟩),
  (61, ⟨.other, 1, 8, [.v .nilFunc], []⟩),
  (62, ⟨.other, 1, 8, [.v .nilFunc], []⟩),
  (63, ⟨.array 2 33, 2, 48, [.slc [.str], .slc [.str]], []⟩),
  (64, ⟨.slice 165, 1, 24, [.slc [.int .i64, .int .i64, .str]], []⟩),
  (65, ⟨.struct [(0, 2, 63), (2, 1, 64)], 3, 72, [.slc [.str], .slc [.str], .slc [.int .i64, .int .i64, .str]], []⟩),
  (66, ⟨.struct [(0, 2, 63), (2, 1, 64)], 3, 72, [.slc [.str], .slc [.str], .slc [.int .i64, .int .i64, .str]], []⟩),
  (68, ⟨.other, 1, 8, [.v .nilFunc], []⟩),
  (69, ti69),
  (70, ti70),
  (77, ⟨.other, 1, 8, [.v .nilFunc], []⟩),
  (79, ⟨.other, 1, 8, [.v .nilFunc], []⟩),
  (80, ⟨.struct [(0, 1, 22), (1, 1, 3)], 2, 32, [.slc [.int .u8], .v (.int .i64 0)], []⟩),
  (81, ⟨.struct [(0, 1, 22), (1, 1, 3)], 2, 32, [.slc [.int .u8], .v (.int .i64 0)], []⟩),
  (82, ⟨.other, 1, 8, [.v .nilFunc], []⟩),
  (83, ⟨.other, 1, 8, [.v .nilFunc], []⟩),
  (84, ⟨.slice 3, 1, 24, [.slc [.int .i64]], []⟩),
  (85, ⟨.other, 1, 8, [.v .nilFunc], []⟩),
  (86, ⟨.other, 1, 8, [.v .nilFunc], []⟩),
  (87, ⟨.other, 1, 8, [.v .nilFunc], []⟩),
  (88, ⟨.other, 1, 8, [.v .nilFunc], []⟩),
  (89, ⟨.other, 1, 8, [.v .nilFunc], []⟩),
  (90, ⟨.other, 1, 8, [.v .nilFunc], []⟩),
  (91, ⟨.other, 1, 8, [.v .nilFunc], []⟩),
  (95, ⟨.other, 1, 8, [.v .nilFunc], []⟩),
  (96, ⟨.other, 1, 8, [.v .nilFunc], []⟩),
  (97, ⟨.other, 1, 8, [.v .nilFunc], []⟩),
  (98, ⟨.other, 1, 8, [.v (.pointer none)], []⟩),
  (99, ⟨.struct [(0, 1, 98), (1, 1, 22)], 2, 32, [.v (.pointer none), .slc [.int .u8]], []⟩),
  (100, ⟨.struct [(0, 1, 98), (1, 1, 22)], 2, 32, [.v (.pointer none), .slc [.int .u8]], []⟩),
  (101, ⟨.other, 1, 8, [.v .nilFunc], []⟩),
  (106, ⟨.other, 1, 8, [.v .nilFunc], []⟩),
  (109, ⟨.other, 1, 8, [.v .nilFunc], []⟩),
  (112, ⟨.other, 1, 8, [.v .nilFunc], []⟩),
  (113, ⟨.other, 1, 8, [.v .nilFunc], []⟩),
  (114, ti114),
  (115, ti115),
  (116, ⟨.other, 1, 8, [.v .nilFunc], []⟩),
  (117, ⟨.other, 1, 8, [.v .nilFunc], []⟩),
  (118, ⟨.other, 1, 8, [.v .nilFunc], []⟩),
  (119, ⟨.other, 1, 8, [.v .nilFunc], []⟩),
  (120, ⟨.other, 1, 8, [.v .nilFunc], []⟩),
  (122, ⟨.int .i64, 1, 8, [.v (.int .i64 0)], [.int .i64]⟩),
  (124, ⟨.other, 1, 8, [.v .nilFunc], []⟩),
  (125, ⟨.other, 1, 8, [.v .nilFunc], []⟩),
  (126, ⟨.other, 1, 8, [.v .nilFunc], []⟩),
  (127, ⟨.other, 1, 8, [.v .nilFunc], []⟩),
  (128, ⟨.other, 1, 8, [.v .nilFunc], []⟩),
  (129, ⟨.other, 1, 8, [.v .nilFunc], []⟩),
  (130, ⟨.int .u32, 1, 4, [.v (.int .u32 0)], [.int .u32]⟩),
  (131, ⟨.other, 1, 8, [.v .nilFunc], []⟩),
  (132, ⟨.int .u64, 1, 8, [.v (.int .u64 0)], [.int .u64]⟩),
  (133, ⟨.other, 1, 8, [.v .nilFunc], []⟩),
  (134, ⟨.other, 1, 8, [.v .nilFunc], []⟩),
  (136, ⟨.other, 1, 8, [.v .nilFunc], []⟩),
  (140, ⟨.other, 1, 8, [.v (.pointer none)], []⟩),
  (141, ⟨.other, 1, 8, [.v .nilFunc], []⟩),
  (147, ⟨.other, 1, 8, [.v .nilFunc], []⟩),
  (148, ⟨.other, 1, 8, [.v .nilFunc], []⟩),
  (149, ⟨.other, 1, 8, [.v .nilFunc], []⟩),
  (150, ⟨.other, 1, 8, [.v .nilFunc], []⟩),
  (151, ⟨.other, 1, 8, [.v .nilFunc], []⟩),
  (152, ti152),
  (153, ti153),
  (155, ⟨.other, 1, 8, [.v .nilFunc], []⟩),
  (156, ⟨.other, 1, 8, [.v .nilFunc], []⟩),
  (157, ⟨.other, 1, 8, [.v (.pointer none)], []⟩),
  (161, ⟨.other, 1, 8, [.v .nilFunc], []⟩),
  (162, ⟨.other, 1, 8, [.v (.pointer none)], []⟩),
  (164, ti164),
  (165, ti165),
  (195, ⟨.struct [(0, 1, 5), (1, 1, 5)], 2, 2, [.v (.int .u8 0), .v (.int .u8 0)], [.int .u8, .int .u8]⟩),
  (200, ⟨.struct [(0, 1, 9)], 1, 16, [.v (.string ByteArray.empty)], [.str]⟩),
  (203, ti203),
  (205, ti205),
  (206, ti206),
  (207, ⟨.array 0 16, 0, 0, [], []⟩),
  (208, ⟨.struct [(0, 0, 207)], 0, 0, [], []⟩),
  (209, ⟨.struct [(0, 0, 207)], 0, 0, [], []⟩),
  (211, ⟨.int .u8, 1, 1, [.v (.int .u8 0)], [.int .u8]⟩),
  (212, ⟨.int .u8, 1, 1, [.v (.int .u8 0)], [.int .u8]⟩),
  (213, ⟨.other, 1, 8, [.v .nilFunc], []⟩),
  (214, ⟨.int .i32, 1, 4, [.v (.int .i32 0)], [.int .i32]⟩),
  (215, ⟨.int .i32, 1, 4, [.v (.int .i32 0)], [.int .i32]⟩),
  (216, ti216),
  (217, ti217),
  (218, ⟨.other, 1, 8, [.v .nilFunc], []⟩)]
theorem row1 : RowOK Tryd.prog 1 ⟨.other, 1, 8, [.v .nilFunc], []⟩ := ⟨by kernel_rfl, by kernel_rfl, by kernel_rfl, by kernel_rfl, .inl (by kernel_rfl), by kernel_rfl⟩
theorem row2 : RowOK Tryd.prog 2 ⟨.int .i64, 1, 8, [.v (.int .i64 0)], [.int .i64]⟩ := ⟨by kernel_rfl, by kernel_rfl, by kernel_rfl, by kernel_rfl, .inr (by kernel_rfl), by kernel_rfl⟩
theorem row3 : RowOK Tryd.prog 3 ⟨.int .i64, 1, 8, [.v (.int .i64 0)], [.int .i64]⟩ := ⟨by kernel_rfl, by kernel_rfl, by kernel_rfl, by kernel_rfl, .inr (by kernel_rfl), by kernel_rfl⟩
theorem row4 : RowOK Tryd.prog 4 ⟨.bool, 1, 1, [.v (.bool false)], [.bool]⟩ := ⟨by kernel_rfl, by kernel_rfl, by kernel_rfl, by kernel_rfl, .inr (by kernel_rfl), by kernel_rfl⟩
theorem row5 : RowOK Tryd.prog 5 ⟨.int .u8, 1, 1, [.v (.int .u8 0)], [.int .u8]⟩ := ⟨by kernel_rfl, by kernel_rfl, by kernel_rfl, by kernel_rfl, .inr (by kernel_rfl), by kernel_rfl⟩
theorem row6 : RowOK Tryd.prog 6 ⟨.int .u8, 1, 1, [.v (.int .u8 0)], [.int .u8]⟩ := ⟨by kernel_rfl, by kernel_rfl, by kernel_rfl, by kernel_rfl, .inr (by kernel_rfl), by kernel_rfl⟩
theorem row7 : RowOK Tryd.prog 7 ti7 := ⟨by kernel_rfl, by kernel_rfl, by kernel_rfl, by kernel_rfl, .inr (by kernel_rfl), by kernel_rfl⟩
theorem row8 : RowOK Tryd.prog 8 ti8 := ⟨by kernel_rfl, by kernel_rfl, by kernel_rfl, by kernel_rfl, .inr (by kernel_rfl), by kernel_rfl⟩
theorem row9 : RowOK Tryd.prog 9 ⟨.str, 1, 16, [.v (.string ByteArray.empty)], [.str]⟩ := ⟨by kernel_rfl, by kernel_rfl, by kernel_rfl, by kernel_rfl, .inr (by kernel_rfl), by kernel_rfl⟩
theorem row10 : RowOK Tryd.prog 10 ⟨.str, 1, 16, [.v (.string ByteArray.empty)], [.str]⟩ := ⟨by kernel_rfl, by kernel_rfl, by kernel_rfl, by kernel_rfl, .inr (by kernel_rfl), by kernel_rfl⟩
theorem row11 : RowOK Tryd.prog 11 ⟨.str, 1, 16, [.v (.string ByteArray.empty)], [.str]⟩ := ⟨by kernel_rfl, by kernel_rfl, by kernel_rfl, by kernel_rfl, .inr (by kernel_rfl), by kernel_rfl⟩
theorem row12 : RowOK Tryd.prog 12 ⟨.int .u64, 1, 8, [.v (.int .u64 0)], [.int .u64]⟩ := ⟨by kernel_rfl, by kernel_rfl, by kernel_rfl, by kernel_rfl, .inr (by kernel_rfl), by kernel_rfl⟩
theorem row13 : RowOK Tryd.prog 13 ⟨.struct [(0, 1, 9), (1, 1, 12)], 2, 24, [.v (.string ByteArray.empty), .v (.int .u64 0)], [.str, .int .u64]⟩ := ⟨by kernel_rfl, by kernel_rfl, by kernel_rfl, by kernel_rfl, .inr (by kernel_rfl), by kernel_rfl⟩
theorem row14 : RowOK Tryd.prog 14 ⟨.struct [(0, 1, 9), (1, 1, 12)], 2, 24, [.v (.string ByteArray.empty), .v (.int .u64 0)], [.str, .int .u64]⟩ := ⟨by kernel_rfl, by kernel_rfl, by kernel_rfl, by kernel_rfl, .inr (by kernel_rfl), by kernel_rfl⟩
theorem row15 : RowOK Tryd.prog 15 ⟨.other, 1, 8, [.v (.pointer none)], []⟩ := ⟨by kernel_rfl, by kernel_rfl, by kernel_rfl, by kernel_rfl, .inl (by kernel_rfl), by kernel_rfl⟩
theorem row16 : RowOK Tryd.prog 16 ⟨.other, 1, 8, [.v (.pointer none)], []⟩ := ⟨by kernel_rfl, by kernel_rfl, by kernel_rfl, by kernel_rfl, .inl (by kernel_rfl), by kernel_rfl⟩
theorem row17 : RowOK Tryd.prog 17 ⟨.other, 1, 8, [.v (.pointer none)], []⟩ := ⟨by kernel_rfl, by kernel_rfl, by kernel_rfl, by kernel_rfl, .inl (by kernel_rfl), by kernel_rfl⟩
theorem row18 : RowOK Tryd.prog 18 ⟨.struct [(0, 1, 17)], 1, 8, [.v (.pointer none)], []⟩ := ⟨by kernel_rfl, by kernel_rfl, by kernel_rfl, by kernel_rfl, .inl (by kernel_rfl), by kernel_rfl⟩
theorem row19 : RowOK Tryd.prog 19 ⟨.struct [(0, 1, 17)], 1, 8, [.v (.pointer none)], []⟩ := ⟨by kernel_rfl, by kernel_rfl, by kernel_rfl, by kernel_rfl, .inl (by kernel_rfl), by kernel_rfl⟩
theorem row20 : RowOK Tryd.prog 20 ⟨.iface, 1, 16, [.v .nilIface], []⟩ := ⟨by kernel_rfl, by kernel_rfl, by kernel_rfl, by kernel_rfl, .inl (by kernel_rfl), by kernel_rfl⟩
theorem row21 : RowOK Tryd.prog 21 ⟨.int .i32, 1, 4, [.v (.int .i32 0)], [.int .i32]⟩ := ⟨by kernel_rfl, by kernel_rfl, by kernel_rfl, by kernel_rfl, .inr (by kernel_rfl), by kernel_rfl⟩
theorem row22 : RowOK Tryd.prog 22 ⟨.slice 5, 1, 24, [.slc [.int .u8]], []⟩ := ⟨by kernel_rfl, by kernel_rfl, by kernel_rfl, by kernel_rfl, .inl (by kernel_rfl), by kernel_rfl⟩
theorem row24 : RowOK Tryd.prog 24 ⟨.other, 1, 8, [.v .nilFunc], []⟩ := ⟨by kernel_rfl, by kernel_rfl, by kernel_rfl, by kernel_rfl, .inl (by kernel_rfl), by kernel_rfl⟩
theorem row25 : RowOK Tryd.prog 25 ⟨.other, 1, 8, [.v .nilFunc], []⟩ := ⟨by kernel_rfl, by kernel_rfl, by kernel_rfl, by kernel_rfl, .inl (by kernel_rfl), by kernel_rfl⟩
theorem row29 : RowOK Tryd.prog 29 ⟨.slice 38, 1, 24, [.slc [.str, .int .i64, .str, .str, .str, .str, .str, .str, .str, .str, .str]], []⟩ := ⟨by kernel_rfl, by kernel_rfl, by kernel_rfl, by kernel_rfl, .inl (by kernel_rfl), by kernel_rfl⟩
theorem row30 : RowOK Tryd.prog 30 ⟨.struct [(0, 1, 29)], 1, 24, [.slc [.str, .int .i64, .str, .str, .str, .str, .str, .str, .str, .str, .str]], []⟩ := ⟨by kernel_rfl, by kernel_rfl, by kernel_rfl, by kernel_rfl, .inl (by kernel_rfl), by kernel_rfl⟩
theorem row31 : RowOK Tryd.prog 31 ⟨.struct [(0, 1, 29)], 1, 24, [.slc [.str, .int .i64, .str, .str, .str, .str, .str, .str, .str, .str, .str]], []⟩ := ⟨by kernel_rfl, by kernel_rfl, by kernel_rfl, by kernel_rfl, .inl (by kernel_rfl), by kernel_rfl⟩
theorem row32 : RowOK Tryd.prog 32 ⟨.other, 1, 8, [.v .nilFunc], []⟩ := ⟨by kernel_rfl, by kernel_rfl, by kernel_rfl, by kernel_rfl, .inl (by kernel_rfl), by kernel_rfl⟩
theorem row33 : RowOK Tryd.prog 33 ⟨.slice 9, 1, 24, [.slc [.str]], []⟩ := ⟨by kernel_rfl, by kernel_rfl, by kernel_rfl, by kernel_rfl, .inl (by kernel_rfl), by kernel_rfl⟩
theorem row34 : RowOK Tryd.prog 34 ⟨.other, 1, 8, [.v .nilFunc], []⟩ := ⟨by kernel_rfl, by kernel_rfl, by kernel_rfl, by kernel_rfl, .inl (by kernel_rfl), by kernel_rfl⟩
theorem row35 : RowOK Tryd.prog 35 ⟨.other, 1, 8, [.v .nilFunc], []⟩ := ⟨by kernel_rfl, by kernel_rfl, by kernel_rfl, by kernel_rfl, .inl (by kernel_rfl), by kernel_rfl⟩
theorem row36 : RowOK Tryd.prog 36 ti36 := ⟨by kernel_rfl, by kernel_rfl, by kernel_rfl, by kernel_rfl, .inr (by kernel_rfl), by kernel_rfl⟩
theorem row37 : RowOK Tryd.prog 37 ti37 := ⟨by kernel_rfl, by kernel_rfl, by kernel_rfl, by kernel_rfl, .inr (by kernel_rfl), by kernel_rfl⟩
theorem row38 : RowOK Tryd.prog 38 ti38 := ⟨by kernel_rfl, by kernel_rfl, by kernel_rfl, by kernel_rfl, .inr (by kernel_rfl), by kernel_rfl⟩
theorem row39 : RowOK Tryd.prog 39 ⟨.other, 1, 8, [.v .nilFunc], []⟩ := ⟨by kernel_rfl, by kernel_rfl, by kernel_rfl, by kernel_rfl, .inl (by kernel_rfl), by kernel_rfl⟩
theorem row40 : RowOK Tryd.prog 40 ⟨.slice 70, 1, 24, [.slc [.int .i64, .int .i64, .int .i64]], []⟩ := ⟨by kernel_rfl, by kernel_rfl, by kernel_rfl, by kernel_rfl, .inl (by kernel_rfl), by kernel_rfl⟩
theorem row41 : RowOK Tryd.prog 41 ⟨.other, 1, 8, [.v .nilFunc], []⟩ := ⟨by kernel_rfl, by kernel_rfl, by kernel_rfl, by kernel_rfl, .inl (by kernel_rfl), by kernel_rfl⟩
theorem row42 : RowOK Tryd.prog 42 ⟨.other, 1, 8, [.v .nilFunc], []⟩ := ⟨by kernel_rfl, by kernel_rfl, by kernel_rfl, by kernel_rfl, .inl (by kernel_rfl), by kernel_rfl⟩
theorem row43 : RowOK Tryd.prog 43 ⟨.other, 1, 8, [.v .nilFunc], []⟩ := ⟨by kernel_rfl, by kernel_rfl, by kernel_rfl, by kernel_rfl, .inl (by kernel_rfl), by kernel_rfl⟩
theorem row46 : RowOK Tryd.prog 46 ⟨.other, 1, 8, [.v .nilFunc], []⟩ := ⟨by kernel_rfl, by kernel_rfl, by kernel_rfl, by kernel_rfl, .inl (by kernel_rfl), by kernel_rfl⟩
theorem row47 : RowOK Tryd.prog 47 ⟨.other, 1, 8, [.v .nilFunc], []⟩ := ⟨by kernel_rfl, by kernel_rfl, by kernel_rfl, by kernel_rfl, .inl (by kernel_rfl), by kernel_rfl⟩
theorem row48 : RowOK Tryd.prog 48 ⟨.other, 1, 8, [.v (.pointer none)], []⟩ := ⟨by kernel_rfl, by kernel_rfl, by kernel_rfl, by kernel_rfl, .inl (by kernel_rfl), by kernel_rfl⟩
theorem row49 : RowOK Tryd.prog 49 ⟨.other, 1, 8, [.v .nilFunc], []⟩ := ⟨by kernel_rfl, by kernel_rfl, by kernel_rfl, by kernel_rfl, .inl (by kernel_rfl), by kernel_rfl⟩
theorem row50 : RowOK Tryd.prog 50 ⟨.other, 1, 8, [.v .nilFunc], []⟩ := ⟨by kernel_rfl, by kernel_rfl, by kernel_rfl, by kernel_rfl, .inl (by kernel_rfl), by kernel_rfl⟩
theorem row53 : RowOK Tryd.prog 53 ⟨.int .u64, 1, 8, [.v (.int .u64 0)], [.int .u64]⟩ := ⟨by kernel_rfl, by kernel_rfl, by kernel_rfl, by kernel_rfl, .inr (by kernel_rfl), by kernel_rfl⟩
theorem row55 : RowOK Tryd.prog 55 ⟨.other, 1, 8, [.v .nilFunc], []⟩ := ⟨by kernel_rfl, by kernel_rfl, by kernel_rfl, by kernel_rfl, .inl (by kernel_rfl), by kernel_rfl⟩
theorem row56 : RowOK Tryd.prog 56 ⟨.other, 1, 8, [.v .nilFunc], []⟩ := ⟨by kernel_rfl, by kernel_rfl, by kernel_rfl, by kernel_rfl, .inl (by kernel_rfl), by kernel_rfl⟩
theorem row57 : RowOK Tryd.prog 57 ⟨.other, 1, 8, [.v .nilFunc], []⟩ := ⟨by kernel_rfl, by kernel_rfl, by kernel_rfl, by kernel_rfl, .inl (by kernel_rfl), by kernel_rfl⟩
theorem row58 : RowOK Tryd.prog 58 ⟨.other, 1, 8, [.v .nilFunc], []⟩ := ⟨by kernel_rfl, by kernel_rfl, by kernel_rfl, by kernel_rfl, .inl (by kernel_rfl), by kernel_rfl⟩
theorem row59 : RowOK Tryd.prog 59 ⟨.other, 1, 8, [.v .nilFunc], []⟩ := ⟨by kernel_rfl, by kernel_rfl, by kernel_rfl, by kernel_rfl, .inl (by kernel_rfl), by kernel_rfl⟩
theorem row60 : RowOK Tryd.prog 60 ⟨.other, 1, 8, [.v .nilFunc], []⟩ := ⟨by kernel_rfl, by kernel_rfl, by kernel_rfl, by kernel_rfl, .inl (by kernel_rfl), by kernel_rfl⟩
theorem row61 : RowOK Tryd.prog 61 ⟨.other, 1, 8, [.v .nilFunc], []⟩ := ⟨by kernel_rfl, by kernel_rfl, by kernel_rfl, by kernel_rfl, .inl (by kernel_rfl), by kernel_rfl⟩
theorem row62 : RowOK Tryd.prog 62 ⟨.other, 1, 8, [.v .nilFunc], []⟩ := ⟨by kernel_rfl, by kernel_rfl, by kernel_rfl, by kernel_rfl, .inl (by kernel_rfl), by kernel_rfl⟩
theorem row63 : RowOK Tryd.prog 63 ⟨.array 2 33, 2, 48, [.slc [.str], .slc [.str]], []⟩ := ⟨by kernel_rfl, by kernel_rfl, by kernel_rfl, by kernel_rfl, .inl (by kernel_rfl), by kernel_rfl⟩
theorem row64 : RowOK Tryd.prog 64 ⟨.slice 165, 1, 24, [.slc [.int .i64, .int .i64, .str]], []⟩ := ⟨by kernel_rfl, by kernel_rfl, by kernel_rfl, by kernel_rfl, .inl (by kernel_rfl), by kernel_rfl⟩
theorem row65 : RowOK Tryd.prog 65 ⟨.struct [(0, 2, 63), (2, 1, 64)], 3, 72, [.slc [.str], .slc [.str], .slc [.int .i64, .int .i64, .str]], []⟩ := ⟨by kernel_rfl, by kernel_rfl, by kernel_rfl, by kernel_rfl, .inl (by kernel_rfl), by kernel_rfl⟩
theorem row66 : RowOK Tryd.prog 66 ⟨.struct [(0, 2, 63), (2, 1, 64)], 3, 72, [.slc [.str], .slc [.str], .slc [.int .i64, .int .i64, .str]], []⟩ := ⟨by kernel_rfl, by kernel_rfl, by kernel_rfl, by kernel_rfl, .inl (by kernel_rfl), by kernel_rfl⟩
theorem row68 : RowOK Tryd.prog 68 ⟨.other, 1, 8, [.v .nilFunc], []⟩ := ⟨by kernel_rfl, by kernel_rfl, by kernel_rfl, by kernel_rfl, .inl (by kernel_rfl), by kernel_rfl⟩
theorem row69 : RowOK Tryd.prog 69 ti69 := ⟨by kernel_rfl, by kernel_rfl, by kernel_rfl, by kernel_rfl, .inr (by kernel_rfl), by kernel_rfl⟩
theorem row70 : RowOK Tryd.prog 70 ti70 := ⟨by kernel_rfl, by kernel_rfl, by kernel_rfl, by kernel_rfl, .inr (by kernel_rfl), by kernel_rfl⟩
theorem row77 : RowOK Tryd.prog 77 ⟨.other, 1, 8, [.v .nilFunc], []⟩ := ⟨by kernel_rfl, by kernel_rfl, by kernel_rfl, by kernel_rfl, .inl (by kernel_rfl), by kernel_rfl⟩
theorem row79 : RowOK Tryd.prog 79 ⟨.other, 1, 8, [.v .nilFunc], []⟩ := ⟨by kernel_rfl, by kernel_rfl, by kernel_rfl, by kernel_rfl, .inl (by kernel_rfl), by kernel_rfl⟩
theorem row80 : RowOK Tryd.prog 80 ⟨.struct [(0, 1, 22), (1, 1, 3)], 2, 32, [.slc [.int .u8], .v (.int .i64 0)], []⟩ := ⟨by kernel_rfl, by kernel_rfl, by kernel_rfl, by kernel_rfl, .inl (by kernel_rfl), by kernel_rfl⟩
theorem row81 : RowOK Tryd.prog 81 ⟨.struct [(0, 1, 22), (1, 1, 3)], 2, 32, [.slc [.int .u8], .v (.int .i64 0)], []⟩ := ⟨by kernel_rfl, by kernel_rfl, by kernel_rfl, by kernel_rfl, .inl (by kernel_rfl), by kernel_rfl⟩
theorem row82 : RowOK Tryd.prog 82 ⟨.other, 1, 8, [.v .nilFunc], []⟩ := ⟨by kernel_rfl, by kernel_rfl, by kernel_rfl, by kernel_rfl, .inl (by kernel_rfl), by kernel_rfl⟩
theorem row83 : RowOK Tryd.prog 83 ⟨.other, 1, 8, [.v .nilFunc], []⟩ := ⟨by kernel_rfl, by kernel_rfl, by kernel_rfl, by kernel_rfl, .inl (by kernel_rfl), by kernel_rfl⟩
theorem row84 : RowOK Tryd.prog 84 ⟨.slice 3, 1, 24, [.slc [.int .i64]], []⟩ := ⟨by kernel_rfl, by kernel_rfl, by kernel_rfl, by kernel_rfl, .inl (by kernel_rfl), by kernel_rfl⟩
theorem row85 : RowOK Tryd.prog 85 ⟨.other, 1, 8, [.v .nilFunc], []⟩ := ⟨by kernel_rfl, by kernel_rfl, by kernel_rfl, by kernel_rfl, .inl (by kernel_rfl), by kernel_rfl⟩
theorem row86 : RowOK Tryd.prog 86 ⟨.other, 1, 8, [.v .nilFunc], []⟩ := ⟨by kernel_rfl, by kernel_rfl, by kernel_rfl, by kernel_rfl, .inl (by kernel_rfl), by kernel_rfl⟩
theorem row87 : RowOK Tryd.prog 87 ⟨.other, 1, 8, [.v .nilFunc], []⟩ := ⟨by kernel_rfl, by kernel_rfl, by kernel_rfl, by kernel_rfl, .inl (by kernel_rfl), by kernel_rfl⟩
theorem row88 : RowOK Tryd.prog 88 ⟨.other, 1, 8, [.v .nilFunc], []⟩ := ⟨by kernel_rfl, by kernel_rfl, by kernel_rfl, by kernel_rfl, .inl (by kernel_rfl), by kernel_rfl⟩
theorem row89 : RowOK Tryd.prog 89 ⟨.other, 1, 8, [.v .nilFunc], []⟩ := ⟨by kernel_rfl, by kernel_rfl, by kernel_rfl, by kernel_rfl, .inl (by kernel_rfl), by kernel_rfl⟩
theorem row90 : RowOK Tryd.prog 90 ⟨.other, 1, 8, [.v .nilFunc], []⟩ := ⟨by kernel_rfl, by kernel_rfl, by kernel_rfl, by kernel_rfl, .inl (by kernel_rfl), by kernel_rfl⟩
theorem row91 : RowOK Tryd.prog 91 ⟨.other, 1, 8, [.v .nilFunc], []⟩ := ⟨by kernel_rfl, by kernel_rfl, by kernel_rfl, by kernel_rfl, .inl (by kernel_rfl), by kernel_rfl⟩
theorem row95 : RowOK Tryd.prog 95 ⟨.other, 1, 8, [.v .nilFunc], []⟩ := ⟨by kernel_rfl, by kernel_rfl, by kernel_rfl, by kernel_rfl, .inl (by kernel_rfl), by kernel_rfl⟩
theorem row96 : RowOK Tryd.prog 96 ⟨.other, 1, 8, [.v .nilFunc], []⟩ := ⟨by kernel_rfl, by kernel_rfl, by kernel_rfl, by kernel_rfl, .inl (by kernel_rfl), by kernel_rfl⟩
theorem row97 : RowOK Tryd.prog 97 ⟨.other, 1, 8, [.v .nilFunc], []⟩ := ⟨by kernel_rfl, by kernel_rfl, by kernel_rfl, by kernel_rfl, .inl (by kernel_rfl), by kernel_rfl⟩
theorem row98 : RowOK Tryd.prog 98 ⟨.other, 1, 8, [.v (.pointer none)], []⟩ := ⟨by kernel_rfl, by kernel_rfl, by kernel_rfl, by kernel_rfl, .inl (by kernel_rfl), by kernel_rfl⟩
theorem row99 : RowOK Tryd.prog 99 ⟨.struct [(0, 1, 98), (1, 1, 22)], 2, 32, [.v (.pointer none), .slc [.int .u8]], []⟩ := ⟨by kernel_rfl, by kernel_rfl, by kernel_rfl, by kernel_rfl, .inl (by kernel_rfl), by kernel_rfl⟩
theorem row100 : RowOK Tryd.prog 100 ⟨.struct [(0, 1, 98), (1, 1, 22)], 2, 32, [.v (.pointer none), .slc [.int .u8]], []⟩ := ⟨by kernel_rfl, by kernel_rfl, by kernel_rfl, by kernel_rfl, .inl (by kernel_rfl), by kernel_rfl⟩
theorem row101 : RowOK Tryd.prog 101 ⟨.other, 1, 8, [.v .nilFunc], []⟩ := ⟨by kernel_rfl, by kernel_rfl, by kernel_rfl, by kernel_rfl, .inl (by kernel_rfl), by kernel_rfl⟩
theorem row106 : RowOK Tryd.prog 106 ⟨.other, 1, 8, [.v .nilFunc], []⟩ := ⟨by kernel_rfl, by kernel_rfl, by kernel_rfl, by kernel_rfl, .inl (by kernel_rfl), by kernel_rfl⟩
theorem row109 : RowOK Tryd.prog 109 ⟨.other, 1, 8, [.v .nilFunc], []⟩ := ⟨by kernel_rfl, by kernel_rfl, by kernel_rfl, by kernel_rfl, .inl (by kernel_rfl), by kernel_rfl⟩
theorem row112 : RowOK Tryd.prog 112 ⟨.other, 1, 8, [.v .nilFunc], []⟩ := ⟨by kernel_rfl, by kernel_rfl, by kernel_rfl, by kernel_rfl, .inl (by kernel_rfl), by kernel_rfl⟩
theorem row113 : RowOK Tryd.prog 113 ⟨.other, 1, 8, [.v .nilFunc], []⟩ := ⟨by kernel_rfl, by kernel_rfl, by kernel_rfl, by kernel_rfl, .inl (by kernel_rfl), by kernel_rfl⟩
theorem row114 : RowOK Tryd.prog 114 ti114 := ⟨by kernel_rfl, by kernel_rfl, by kernel_rfl, by kernel_rfl, .inr (by kernel_rfl), by kernel_rfl⟩
theorem row115 : RowOK Tryd.prog 115 ti115 := ⟨by kernel_rfl, by kernel_rfl, by kernel_rfl, by kernel_rfl, .inr (by kernel_rfl), by kernel_rfl⟩
theorem row116 : RowOK Tryd.prog 116 ⟨.other, 1, 8, [.v .nilFunc], []⟩ := ⟨by kernel_rfl, by kernel_rfl, by kernel_rfl, by kernel_rfl, .inl (by kernel_rfl), by kernel_rfl⟩
theorem row117 : RowOK Tryd.prog 117 ⟨.other, 1, 8, [.v .nilFunc], []⟩ := ⟨by kernel_rfl, by kernel_rfl, by kernel_rfl, by kernel_rfl, .inl (by kernel_rfl), by kernel_rfl⟩
theorem row118 : RowOK Tryd.prog 118 ⟨.other, 1, 8, [.v .nilFunc], []⟩ := ⟨by kernel_rfl, by kernel_rfl, by kernel_rfl, by kernel_rfl, .inl (by kernel_rfl), by kernel_rfl⟩
theorem row119 : RowOK Tryd.prog 119 ⟨.other, 1, 8, [.v .nilFunc], []⟩ := ⟨by kernel_rfl, by kernel_rfl, by kernel_rfl, by kernel_rfl, .inl (by kernel_rfl), by kernel_rfl⟩
theorem row120 : RowOK Tryd.prog 120 ⟨.other, 1, 8, [.v .nilFunc], []⟩ := ⟨by kernel_rfl, by kernel_rfl, by kernel_rfl, by kernel_rfl, .inl (by kernel_rfl), by kernel_rfl⟩
theorem row122 : RowOK Tryd.prog 122 ⟨.int .i64, 1, 8, [.v (.int .i64 0)], [.int .i64]⟩ := ⟨by kernel_rfl, by kernel_rfl, by kernel_rfl, by kernel_rfl, .inr (by kernel_rfl), by kernel_rfl⟩
theorem row124 : RowOK Tryd.prog 124 ⟨.other, 1, 8, [.v .nilFunc], []⟩ := ⟨by kernel_rfl, by kernel_rfl, by kernel_rfl, by kernel_rfl, .inl (by kernel_rfl), by kernel_rfl⟩
theorem row125 : RowOK Tryd.prog 125 ⟨.other, 1, 8, [.v .nilFunc], []⟩ := ⟨by kernel_rfl, by kernel_rfl, by kernel_rfl, by kernel_rfl, .inl (by kernel_rfl), by kernel_rfl⟩
theorem row126 : RowOK Tryd.prog 126 ⟨.other, 1, 8, [.v .nilFunc], []⟩ := ⟨by kernel_rfl, by kernel_rfl, by kernel_rfl, by kernel_rfl, .inl (by kernel_rfl), by kernel_rfl⟩
theorem row127 : RowOK Tryd.prog 127 ⟨.other, 1, 8, [.v .nilFunc], []⟩ := ⟨by kernel_rfl, by kernel_rfl, by kernel_rfl, by kernel_rfl, .inl (by kernel_rfl), by kernel_rfl⟩
theorem row128 : RowOK Tryd.prog 128 ⟨.other, 1, 8, [.v .nilFunc], []⟩ := ⟨by kernel_rfl, by kernel_rfl, by kernel_rfl, by kernel_rfl, .inl (by kernel_rfl), by kernel_rfl⟩
theorem row129 : RowOK Tryd.prog 129 ⟨.other, 1, 8, [.v .nilFunc], []⟩ := ⟨by kernel_rfl, by kernel_rfl, by kernel_rfl, by kernel_rfl, .inl (by kernel_rfl), by kernel_rfl⟩
theorem row130 : RowOK Tryd.prog 130 ⟨.int .u32, 1, 4, [.v (.int .u32 0)], [.int .u32]⟩ := ⟨by kernel_rfl, by kernel_rfl, by kernel_rfl, by kernel_rfl, .inr (by kernel_rfl), by kernel_rfl⟩
theorem row131 : RowOK Tryd.prog 131 ⟨.other, 1, 8, [.v .nilFunc], []⟩ := ⟨by kernel_rfl, by kernel_rfl, by kernel_rfl, by kernel_rfl, .inl (by kernel_rfl), by kernel_rfl⟩
theorem row132 : RowOK Tryd.prog 132 ⟨.int .u64, 1, 8, [.v (.int .u64 0)], [.int .u64]⟩ := ⟨by kernel_rfl, by kernel_rfl, by kernel_rfl, by kernel_rfl, .inr (by kernel_rfl), by kernel_rfl⟩
theorem row133 : RowOK Tryd.prog 133 ⟨.other, 1, 8, [.v .nilFunc], []⟩ := ⟨by kernel_rfl, by kernel_rfl, by kernel_rfl, by kernel_rfl, .inl (by kernel_rfl), by kernel_rfl⟩
theorem row134 : RowOK Tryd.prog 134 ⟨.other, 1, 8, [.v .nilFunc], []⟩ := ⟨by kernel_rfl, by kernel_rfl, by kernel_rfl, by kernel_rfl, .inl (by kernel_rfl), by kernel_rfl⟩
theorem row136 : RowOK Tryd.prog 136 ⟨.other, 1, 8, [.v .nilFunc], []⟩ := ⟨by kernel_rfl, by kernel_rfl, by kernel_rfl, by kernel_rfl, .inl (by kernel_rfl), by kernel_rfl⟩
theorem row140 : RowOK Tryd.prog 140 ⟨.other, 1, 8, [.v (.pointer none)], []⟩ := ⟨by kernel_rfl, by kernel_rfl, by kernel_rfl, by kernel_rfl, .inl (by kernel_rfl), by kernel_rfl⟩
theorem row141 : RowOK Tryd.prog 141 ⟨.other, 1, 8, [.v .nilFunc], []⟩ := ⟨by kernel_rfl, by kernel_rfl, by kernel_rfl, by kernel_rfl, .inl (by kernel_rfl), by kernel_rfl⟩
theorem row147 : RowOK Tryd.prog 147 ⟨.other, 1, 8, [.v .nilFunc], []⟩ := ⟨by kernel_rfl, by kernel_rfl, by kernel_rfl, by kernel_rfl, .inl (by kernel_rfl), by kernel_rfl⟩
theorem row148 : RowOK Tryd.prog 148 ⟨.other, 1, 8, [.v .nilFunc], []⟩ := ⟨by kernel_rfl, by kernel_rfl, by kernel_rfl, by kernel_rfl, .inl (by kernel_rfl), by kernel_rfl⟩
theorem row149 : RowOK Tryd.prog 149 ⟨.other, 1, 8, [.v .nilFunc], []⟩ := ⟨by kernel_rfl, by kernel_rfl, by kernel_rfl, by kernel_rfl, .inl (by kernel_rfl), by kernel_rfl⟩
theorem row150 : RowOK Tryd.prog 150 ⟨.other, 1, 8, [.v .nilFunc], []⟩ := ⟨by kernel_rfl, by kernel_rfl, by kernel_rfl, by kernel_rfl, .inl (by kernel_rfl), by kernel_rfl⟩
theorem row151 : RowOK Tryd.prog 151 ⟨.other, 1, 8, [.v .nilFunc], []⟩ := ⟨by kernel_rfl, by kernel_rfl, by kernel_rfl, by kernel_rfl, .inl (by kernel_rfl), by kernel_rfl⟩
theorem row152 : RowOK Tryd.prog 152 ti152 := ⟨by kernel_rfl, by kernel_rfl, by kernel_rfl, by kernel_rfl, .inr (by kernel_rfl), by kernel_rfl⟩
theorem row153 : RowOK Tryd.prog 153 ti153 := ⟨by kernel_rfl, by kernel_rfl, by kernel_rfl, by kernel_rfl, .inr (by kernel_rfl), by kernel_rfl⟩
theorem row155 : RowOK Tryd.prog 155 ⟨.other, 1, 8, [.v .nilFunc], []⟩ := ⟨by kernel_rfl, by kernel_rfl, by kernel_rfl, by kernel_rfl, .inl (by kernel_rfl), by kernel_rfl⟩
theorem row156 : RowOK Tryd.prog 156 ⟨.other, 1, 8, [.v .nilFunc], []⟩ := ⟨by kernel_rfl, by kernel_rfl, by kernel_rfl, by kernel_rfl, .inl (by kernel_rfl), by kernel_rfl⟩
theorem row157 : RowOK Tryd.prog 157 ⟨.other, 1, 8, [.v (.pointer none)], []⟩ := ⟨by kernel_rfl, by kernel_rfl, by kernel_rfl, by kernel_rfl, .inl (by kernel_rfl), by kernel_rfl⟩
theorem row161 : RowOK Tryd.prog 161 ⟨.other, 1, 8, [.v .nilFunc], []⟩ := ⟨by kernel_rfl, by kernel_rfl, by kernel_rfl, by kernel_rfl, .inl (by kernel_rfl), by kernel_rfl⟩
theorem row162 : RowOK Tryd.prog 162 ⟨.other, 1, 8, [.v (.pointer none)], []⟩ := ⟨by kernel_rfl, by kernel_rfl, by kernel_rfl, by kernel_rfl, .inl (by kernel_rfl), by kernel_rfl⟩
theorem row164 : RowOK Tryd.prog 164 ti164 := ⟨by kernel_rfl, by kernel_rfl, by kernel_rfl, by kernel_rfl, .inr (by kernel_rfl), by kernel_rfl⟩
theorem row165 : RowOK Tryd.prog 165 ti165 := ⟨by kernel_rfl, by kernel_rfl, by kernel_rfl, by kernel_rfl, .inr (by kernel_rfl), by kernel_rfl⟩
theorem row195 : RowOK Tryd.prog 195 ⟨.struct [(0, 1, 5), (1, 1, 5)], 2, 2, [.v (.int .u8 0), .v (.int .u8 0)], [.int .u8, .int .u8]⟩ := ⟨by kernel_rfl, by kernel_rfl, by kernel_rfl, by kernel_rfl, .inr (by kernel_rfl), by kernel_rfl⟩
theorem row200 : RowOK Tryd.prog 200 ⟨.struct [(0, 1, 9)], 1, 16, [.v (.string ByteArray.empty)], [.str]⟩ := ⟨by kernel_rfl, by kernel_rfl, by kernel_rfl, by kernel_rfl, .inr (by kernel_rfl), by kernel_rfl⟩
theorem row203 : RowOK Tryd.prog 203 ti203 := ⟨by kernel_rfl, by kernel_rfl, by kernel_rfl, by kernel_rfl, .inr (by kernel_rfl), by kernel_rfl⟩
theorem row205 : RowOK Tryd.prog 205 ti205 := ⟨by kernel_rfl, by kernel_rfl, by kernel_rfl, by kernel_rfl, .inl (by kernel_rfl), by kernel_rfl⟩
theorem row206 : RowOK Tryd.prog 206 ti206 := ⟨by kernel_rfl, by kernel_rfl, by kernel_rfl, by kernel_rfl, .inl (by kernel_rfl), by kernel_rfl⟩
theorem row207 : RowOK Tryd.prog 207 ⟨.array 0 16, 0, 0, [], []⟩ := ⟨by kernel_rfl, by kernel_rfl, by kernel_rfl, by kernel_rfl, .inl (by kernel_rfl), by kernel_rfl⟩
theorem row208 : RowOK Tryd.prog 208 ⟨.struct [(0, 0, 207)], 0, 0, [], []⟩ := ⟨by kernel_rfl, by kernel_rfl, by kernel_rfl, by kernel_rfl, .inl (by kernel_rfl), by kernel_rfl⟩
theorem row209 : RowOK Tryd.prog 209 ⟨.struct [(0, 0, 207)], 0, 0, [], []⟩ := ⟨by kernel_rfl, by kernel_rfl, by kernel_rfl, by kernel_rfl, .inl (by kernel_rfl), by kernel_rfl⟩
theorem row211 : RowOK Tryd.prog 211 ⟨.int .u8, 1, 1, [.v (.int .u8 0)], [.int .u8]⟩ := ⟨by kernel_rfl, by kernel_rfl, by kernel_rfl, by kernel_rfl, .inr (by kernel_rfl), by kernel_rfl⟩
theorem row212 : RowOK Tryd.prog 212 ⟨.int .u8, 1, 1, [.v (.int .u8 0)], [.int .u8]⟩ := ⟨by kernel_rfl, by kernel_rfl, by kernel_rfl, by kernel_rfl, .inr (by kernel_rfl), by kernel_rfl⟩
theorem row213 : RowOK Tryd.prog 213 ⟨.other, 1, 8, [.v .nilFunc], []⟩ := ⟨by kernel_rfl, by kernel_rfl, by kernel_rfl, by kernel_rfl, .inl (by kernel_rfl), by kernel_rfl⟩
theorem row214 : RowOK Tryd.prog 214 ⟨.int .i32, 1, 4, [.v (.int .i32 0)], [.int .i32]⟩ := ⟨by kernel_rfl, by kernel_rfl, by kernel_rfl, by kernel_rfl, .inr (by kernel_rfl), by kernel_rfl⟩
theorem row215 : RowOK Tryd.prog 215 ⟨.int .i32, 1, 4, [.v (.int .i32 0)], [.int .i32]⟩ := ⟨by kernel_rfl, by kernel_rfl, by kernel_rfl, by kernel_rfl, .inr (by kernel_rfl), by kernel_rfl⟩
theorem row216 : RowOK Tryd.prog 216 ti216 := ⟨by kernel_rfl, by kernel_rfl, by kernel_rfl, by kernel_rfl, .inl (by kernel_rfl), by kernel_rfl⟩
theorem row217 : RowOK Tryd.prog 217 ti217 := ⟨by kernel_rfl, by kernel_rfl, by kernel_rfl, by kernel_rfl, .inl (by kernel_rfl), by kernel_rfl⟩
theorem row218 : RowOK Tryd.prog 218 ⟨.other, 1, 8, [.v .nilFunc], []⟩ := ⟨by kernel_rfl, by kernel_rfl, by kernel_rfl, by kernel_rfl, .inl (by kernel_rfl), by kernel_rfl⟩
theorem ttOK : TTOK Tryd.prog tt := RowsOK.all tt ⟨row1, row2, row3, row4, row5, row6, row7, row8, row9, row10, row11, row12, row13, row14, row15, row16, row17, row18, row19, row20, row21, row22, row24, row25, row29, row30, row31, row32, row33, row34, row35, row36, row37, row38, row39, row40, row41, row42, row43, row46, row47, row48, row49, row50, row53, row55, row56, row57, row58, row59, row60, row61, row62, row63, row64, row65, row66, row68, row69, row70, row77, row79, row80, row81, row82, row83, row84, row85, row86, row87, row88, row89, row90, row91, row95, row96, row97, row98, row99, row100, row101, row106, row109, row112, row113, row114, row115, row116, row117, row118, row119, row120, row122, row124, row125, row126, row127, row128, row129, row130, row131, row132, row133, row134, row136, row140, row141, row147, row148, row149, row150, row151, row152, row153, row155, row156, row157, row161, row162, row164, row165, row195, row200, row203, row205, row206, row207, row208, row209, row211, row212, row213, row214, row215, row216, row217, row218, trivial⟩
def E0 : Env := ⟨tt, [], [70], .skip, []⟩
theorem eqsOK : EqsOK Tryd.prog E0 := eqs_ok (eqs_one (ti := ⟨.struct [(0, 1, 3), (1, 1, 3), (2, 1, 3)], 3, 24, [.v (.int .i64 0), .v (.int .i64 0), .v (.int .i64 0)], [.int .i64, .int .i64, .int .i64]⟩) (by kernel_rfl) ⟨by kernel_rfl, by kernel_rfl, by kernel_rfl⟩ (trivial))
theorem ok0 : Ok Tryd.prog E0 := ⟨ttOK, eqsOK, by kernel_rfl⟩
end Go.Proofs.YtkjnijddbiconaaDoor.Ev

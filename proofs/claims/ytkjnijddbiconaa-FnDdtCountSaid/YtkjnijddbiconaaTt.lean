/- The table of the program's types: each row says what the program's own table says. -/
import Derived.Test.YtkjnijddbiconaaEvB
import Derived.Test.YtkjnijddbiconaaProg
namespace Go.Proofs.Ytkjnijddbiconaa.Ev
open Go
set_option maxRecDepth 100000
def tt : List (Nat × TI) := [
  (1, ⟨.other, 1, 8, [.v .nilFunc], []⟩),
  (2, ⟨.int .i64, 1, 8, [.v (.int .i64 0)], [.int .i64]⟩),
  (3, ⟨.int .i64, 1, 8, [.v (.int .i64 0)], [.int .i64]⟩),
  (4, ⟨.bool, 1, 1, [.v (.bool false)], [.bool]⟩),
  (5, ⟨.int .u8, 1, 1, [.v (.int .u8 0)], [.int .u8]⟩),
  (6, ⟨.int .u8, 1, 1, [.v (.int .u8 0)], [.int .u8]⟩),
  (7, ⟨.struct [(0, 1, 2), (1, 1, 3), (2, 1, 4), (3, 1, 6)], 4, 24, [.v (.int .i64 0), .v (.int .i64 0), .v (.bool false), .v (.int .u8 0)], [.int .i64, .int .i64, .bool, .int .u8]⟩),
  (8, ⟨.struct [(0, 1, 2), (1, 1, 3), (2, 1, 4), (3, 1, 6)], 4, 24, [.v (.int .i64 0), .v (.int .i64 0), .v (.bool false), .v (.int .u8 0)], [.int .i64, .int .i64, .bool, .int .u8]⟩),
  (9, ⟨.str, 1, 16, [.v (.string ByteArray.empty)], [.str]⟩),
  (10, ⟨.str, 1, 16, [.v (.string ByteArray.empty)], [.str]⟩),
  (11, ⟨.str, 1, 16, [.v (.string ByteArray.empty)], [.str]⟩),
  (12, ⟨.int .u64, 1, 8, [.v (.int .u64 0)], [.int .u64]⟩),
  (13, ⟨.struct [(0, 1, 9), (1, 1, 12)], 2, 24, [.v (.string ByteArray.empty), .v (.int .u64 0)], [.str, .int .u64]⟩),
  (14, ⟨.struct [(0, 1, 9), (1, 1, 12)], 2, 24, [.v (.string ByteArray.empty), .v (.int .u64 0)], [.str, .int .u64]⟩),
  (15, ⟨.other, 1, 8, [.v (.pointer none)], []⟩),
  (16, ⟨.other, 1, 8, [.v (.pointer none)], []⟩),
  (17, ⟨.other, 1, 8, [.v (.pointer none)], []⟩),
  (18, ⟨.struct [(0, 1, 17)], 1, 8, [.v (.pointer none)], []⟩),
  (19, ⟨.struct [(0, 1, 17)], 1, 8, [.v (.pointer none)], []⟩),
  (20, ⟨.iface, 1, 16, [.v .nilIface], []⟩),
  (21, ⟨.int .i32, 1, 4, [.v (.int .i32 0)], [.int .i32]⟩),
  (22, ⟨.slice 44, 1, 24, [.slc [.int .i64, .int .i64, .int .i64]], []⟩),
  (23, ⟨.other, 1, 8, [.v .nilFunc], []⟩),
  (24, ⟨.slice 42, 1, 24, [.slc [.int .i64, .int .i64, .int .i64]], []⟩),
  (26, ⟨.other, 1, 8, [.v .nilFunc], []⟩),
  (27, ⟨.other, 1, 8, [.v .nilFunc], []⟩),
  (28, ⟨.other, 1, 8, [.v .nilFunc], []⟩),
  (29, ⟨.other, 1, 8, [.v .nilFunc], []⟩),
  (30, ⟨.other, 1, 8, [.v .nilFunc], []⟩),
  (31, ⟨.other, 1, 8, [.v .nilFunc], []⟩),
  (32, ⟨.other, 1, 8, [.v .nilFunc], []⟩),
  (33, ⟨.slice 5, 1, 24, [.slc [.int .u8]], []⟩),
  (35, ⟨.other, 1, 8, [.v .nilFunc], []⟩),
  (36, ⟨.other, 1, 8, [.v .nilFunc], []⟩),
  (37, ⟨.other, 1, 8, [.v .nilFunc], []⟩),
  (38, ⟨.other, 1, 8, [.v .nilFunc], []⟩),
  (40, ⟨.other, 1, 8, [.v .nilFunc], []⟩),
  (41, ⟨.struct [(0, 1, 3), (1, 1, 3), (2, 1, 3)], 3, 24, [.v (.int .i64 0), .v (.int .i64 0), .v (.int .i64 0)], [.int .i64, .int .i64, .int .i64]⟩),
  (42, ⟨.struct [(0, 1, 3), (1, 1, 3), (2, 1, 3)], 3, 24, [.v (.int .i64 0), .v (.int .i64 0), .v (.int .i64 0)], [.int .i64, .int .i64, .int .i64]⟩),
  (43, ⟨.other, 1, 8, [.v .nilFunc], []⟩),
  (44, ⟨.struct [(0, 1, 3), (1, 1, 3), (2, 1, 3)], 3, 24, [.v (.int .i64 0), .v (.int .i64 0), .v (.int .i64 0)], [.int .i64, .int .i64, .int .i64]⟩),
  (45, ⟨.other, 1, 8, [.v .nilFunc], []⟩),
  (46, ⟨.other, 1, 8, [.v .nilFunc], []⟩),
  (47, ⟨.other, 1, 8, [.v (.pointer none)], []⟩),
  (48, ⟨.other, 1, 8, [.v .nilFunc], []⟩),
  (49, ⟨.slice 9, 1, 24, [.slc [.str]], []⟩),
  (50, ⟨.array 2 49, 2, 48, [.slc [.str], .slc [.str]], []⟩),
  (51, ⟨.slice 81, 1, 24, [.slc [.int .i64, .int .i64, .str]], []⟩),
  (52, ⟨.struct [(0, 2, 50), (2, 1, 51)], 3, 72, [.slc [.str], .slc [.str], .slc [.int .i64, .int .i64, .str]], []⟩),
  (53, ⟨.struct [(0, 2, 50), (2, 1, 51)], 3, 72, [.slc [.str], .slc [.str], .slc [.int .i64, .int .i64, .str]], []⟩),
  (55, ⟨.other, 1, 8, [.v .nilFunc], []⟩),
  (56, ⟨.other, 1, 8, [.v .nilFunc], []⟩),
  (57, ⟨.slice 3, 1, 24, [.slc [.int .i64]], []⟩),
  (58, ⟨.other, 1, 8, [.v .nilFunc], []⟩),
  (59, ⟨.other, 1, 8, [.v .nilFunc], []⟩),
  (60, ⟨.other, 1, 8, [.v .nilFunc], []⟩),
  (61, ⟨.other, 1, 8, [.v .nilFunc], []⟩),
  (62, ⟨.struct [(0, 1, 33), (1, 1, 3)], 2, 32, [.slc [.int .u8], .v (.int .i64 0)], []⟩),
  (63, ⟨.struct [(0, 1, 33), (1, 1, 3)], 2, 32, [.slc [.int .u8], .v (.int .i64 0)], []⟩),
  (64, ⟨.other, 1, 8, [.v .nilFunc], []⟩),
  (65, ⟨.other, 1, 8, [.v .nilFunc], []⟩),
  (67, ⟨.other, 1, 8, [.v .nilFunc], []⟩),
  (69, ⟨.other, 1, 8, [.v .nilFunc], []⟩),
  (70, ⟨.other, 1, 8, [.v .nilFunc], []⟩),
  (71, ⟨.other, 1, 8, [.v .nilFunc], []⟩),
  (72, ⟨.other, 1, 8, [.v .nilFunc], []⟩),
  (73, ⟨.other, 1, 8, [.v .nilFunc], []⟩),
  (74, ⟨.other, 1, 8, [.v .nilFunc], []⟩),
  (75, ⟨.other, 1, 8, [.v .nilFunc], []⟩),
  (76, ⟨.other, 1, 8, [.v .nilFunc], []⟩),
  (77, ⟨.other, 1, 8, [.v .nilFunc], []⟩),
  (78, ⟨.other, 1, 8, [.v .nilFunc], []⟩),
  (79, ⟨.int .u64, 1, 8, [.v (.int .u64 0)], [.int .u64]⟩),
  (80, ⟨.struct [(0, 1, 3), (1, 1, 3), (2, 1, 9)], 3, 32, [.v (.int .i64 0), .v (.int .i64 0), .v (.string ByteArray.empty)], [.int .i64, .int .i64, .str]⟩),
  (81, ⟨.struct [(0, 1, 3), (1, 1, 3), (2, 1, 9)], 3, 32, [.v (.int .i64 0), .v (.int .i64 0), .v (.string ByteArray.empty)], [.int .i64, .int .i64, .str]⟩),
  (82, ⟨.other, 1, 8, [.v .nilFunc], []⟩),
  (83, ⟨.other, 1, 8, [.v .nilFunc], []⟩),
  (84, ⟨.struct [(0, 1, 17), (1, 1, 17), (2, 1, 17), (3, 1, 9)], 4, 40, [.v (.pointer none), .v (.pointer none), .v (.pointer none), .v (.string ByteArray.empty)], []⟩),
  (85, ⟨.struct [(0, 1, 17), (1, 1, 17), (2, 1, 17), (3, 1, 9)], 4, 40, [.v (.pointer none), .v (.pointer none), .v (.pointer none), .v (.string ByteArray.empty)], []⟩),
  (86, ⟨.array 0 16, 0, 0, [], []⟩),
  (87, ⟨.struct [(0, 0, 86)], 0, 0, [], []⟩),
  (88, ⟨.struct [(0, 0, 86)], 0, 0, [], []⟩),
  (89, ⟨.other, 1, 8, [.v .nilFunc], []⟩),
  (90, ⟨.int .u32, 1, 4, [.v (.int .u32 0)], [.int .u32]⟩),
  (91, ⟨.int .u8, 1, 1, [.v (.int .u8 0)], [.int .u8]⟩),
  (92, ⟨.int .u8, 1, 1, [.v (.int .u8 0)], [.int .u8]⟩),
  (93, ⟨.other, 1, 8, [.v .nilFunc], []⟩),
  (94, ⟨.other, 1, 8, [.v (.pointer none)], []⟩),
  (95, ⟨.int .i32, 1, 4, [.v (.int .i32 0)], [.int .i32]⟩),
  (96, ⟨.int .i32, 1, 4, [.v (.int .i32 0)], [.int .i32]⟩),
  (97, ⟨.struct [(0, 1, 12), (1, 1, 12), (2, 1, 90), (3, 1, 91), (4, 1, 5), (5, 1, 5), (6, 1, 92), (7, 1, 93), (8, 1, 94), (9, 1, 95), (10, 1, 96)], 11, 48, [.v (.int .u64 0), .v (.int .u64 0), .v (.int .u32 0), .v (.int .u8 0), .v (.int .u8 0), .v (.int .u8 0), .v (.int .u8 0), .v .nilFunc, .v (.pointer none), .v (.int .i32 0), .v (.int .i32 0)], []⟩),
  (98, ⟨.struct [(0, 1, 12), (1, 1, 12), (2, 1, 90), (3, 1, 91), (4, 1, 5), (5, 1, 5), (6, 1, 92), (7, 1, 93), (8, 1, 94), (9, 1, 95), (10, 1, 96)], 11, 48, [.v (.int .u64 0), .v (.int .u64 0), .v (.int .u32 0), .v (.int .u8 0), .v (.int .u8 0), .v (.int .u8 0), .v (.int .u8 0), .v .nilFunc, .v (.pointer none), .v (.int .i32 0), .v (.int .i32 0)], []⟩),
  (99, ⟨.other, 1, 8, [.v .nilFunc], []⟩),
  (100, ⟨.other, 1, 8, [.v .nilFunc], []⟩),
  (102, ⟨.int .u64, 1, 8, [.v (.int .u64 0)], [.int .u64]⟩)]
theorem row1 : RowOK Try.prog 1 ⟨.other, 1, 8, [.v .nilFunc], []⟩ := ⟨by kernel_rfl, by kernel_rfl, by kernel_rfl, by kernel_rfl, .inl (by kernel_rfl), by kernel_rfl⟩
theorem row2 : RowOK Try.prog 2 ⟨.int .i64, 1, 8, [.v (.int .i64 0)], [.int .i64]⟩ := ⟨by kernel_rfl, by kernel_rfl, by kernel_rfl, by kernel_rfl, .inr (by kernel_rfl), by kernel_rfl⟩
theorem row3 : RowOK Try.prog 3 ⟨.int .i64, 1, 8, [.v (.int .i64 0)], [.int .i64]⟩ := ⟨by kernel_rfl, by kernel_rfl, by kernel_rfl, by kernel_rfl, .inr (by kernel_rfl), by kernel_rfl⟩
theorem row4 : RowOK Try.prog 4 ⟨.bool, 1, 1, [.v (.bool false)], [.bool]⟩ := ⟨by kernel_rfl, by kernel_rfl, by kernel_rfl, by kernel_rfl, .inr (by kernel_rfl), by kernel_rfl⟩
theorem row5 : RowOK Try.prog 5 ⟨.int .u8, 1, 1, [.v (.int .u8 0)], [.int .u8]⟩ := ⟨by kernel_rfl, by kernel_rfl, by kernel_rfl, by kernel_rfl, .inr (by kernel_rfl), by kernel_rfl⟩
theorem row6 : RowOK Try.prog 6 ⟨.int .u8, 1, 1, [.v (.int .u8 0)], [.int .u8]⟩ := ⟨by kernel_rfl, by kernel_rfl, by kernel_rfl, by kernel_rfl, .inr (by kernel_rfl), by kernel_rfl⟩
theorem row7 : RowOK Try.prog 7 ⟨.struct [(0, 1, 2), (1, 1, 3), (2, 1, 4), (3, 1, 6)], 4, 24, [.v (.int .i64 0), .v (.int .i64 0), .v (.bool false), .v (.int .u8 0)], [.int .i64, .int .i64, .bool, .int .u8]⟩ := ⟨by kernel_rfl, by kernel_rfl, by kernel_rfl, by kernel_rfl, .inr (by kernel_rfl), by kernel_rfl⟩
theorem row8 : RowOK Try.prog 8 ⟨.struct [(0, 1, 2), (1, 1, 3), (2, 1, 4), (3, 1, 6)], 4, 24, [.v (.int .i64 0), .v (.int .i64 0), .v (.bool false), .v (.int .u8 0)], [.int .i64, .int .i64, .bool, .int .u8]⟩ := ⟨by kernel_rfl, by kernel_rfl, by kernel_rfl, by kernel_rfl, .inr (by kernel_rfl), by kernel_rfl⟩
theorem row9 : RowOK Try.prog 9 ⟨.str, 1, 16, [.v (.string ByteArray.empty)], [.str]⟩ := ⟨by kernel_rfl, by kernel_rfl, by kernel_rfl, by kernel_rfl, .inr (by kernel_rfl), by kernel_rfl⟩
theorem row10 : RowOK Try.prog 10 ⟨.str, 1, 16, [.v (.string ByteArray.empty)], [.str]⟩ := ⟨by kernel_rfl, by kernel_rfl, by kernel_rfl, by kernel_rfl, .inr (by kernel_rfl), by kernel_rfl⟩
theorem row11 : RowOK Try.prog 11 ⟨.str, 1, 16, [.v (.string ByteArray.empty)], [.str]⟩ := ⟨by kernel_rfl, by kernel_rfl, by kernel_rfl, by kernel_rfl, .inr (by kernel_rfl), by kernel_rfl⟩
theorem row12 : RowOK Try.prog 12 ⟨.int .u64, 1, 8, [.v (.int .u64 0)], [.int .u64]⟩ := ⟨by kernel_rfl, by kernel_rfl, by kernel_rfl, by kernel_rfl, .inr (by kernel_rfl), by kernel_rfl⟩
theorem row13 : RowOK Try.prog 13 ⟨.struct [(0, 1, 9), (1, 1, 12)], 2, 24, [.v (.string ByteArray.empty), .v (.int .u64 0)], [.str, .int .u64]⟩ := ⟨by kernel_rfl, by kernel_rfl, by kernel_rfl, by kernel_rfl, .inr (by kernel_rfl), by kernel_rfl⟩
theorem row14 : RowOK Try.prog 14 ⟨.struct [(0, 1, 9), (1, 1, 12)], 2, 24, [.v (.string ByteArray.empty), .v (.int .u64 0)], [.str, .int .u64]⟩ := ⟨by kernel_rfl, by kernel_rfl, by kernel_rfl, by kernel_rfl, .inr (by kernel_rfl), by kernel_rfl⟩
theorem row15 : RowOK Try.prog 15 ⟨.other, 1, 8, [.v (.pointer none)], []⟩ := ⟨by kernel_rfl, by kernel_rfl, by kernel_rfl, by kernel_rfl, .inl (by kernel_rfl), by kernel_rfl⟩
theorem row16 : RowOK Try.prog 16 ⟨.other, 1, 8, [.v (.pointer none)], []⟩ := ⟨by kernel_rfl, by kernel_rfl, by kernel_rfl, by kernel_rfl, .inl (by kernel_rfl), by kernel_rfl⟩
theorem row17 : RowOK Try.prog 17 ⟨.other, 1, 8, [.v (.pointer none)], []⟩ := ⟨by kernel_rfl, by kernel_rfl, by kernel_rfl, by kernel_rfl, .inl (by kernel_rfl), by kernel_rfl⟩
theorem row18 : RowOK Try.prog 18 ⟨.struct [(0, 1, 17)], 1, 8, [.v (.pointer none)], []⟩ := ⟨by kernel_rfl, by kernel_rfl, by kernel_rfl, by kernel_rfl, .inl (by kernel_rfl), by kernel_rfl⟩
theorem row19 : RowOK Try.prog 19 ⟨.struct [(0, 1, 17)], 1, 8, [.v (.pointer none)], []⟩ := ⟨by kernel_rfl, by kernel_rfl, by kernel_rfl, by kernel_rfl, .inl (by kernel_rfl), by kernel_rfl⟩
theorem row20 : RowOK Try.prog 20 ⟨.iface, 1, 16, [.v .nilIface], []⟩ := ⟨by kernel_rfl, by kernel_rfl, by kernel_rfl, by kernel_rfl, .inl (by kernel_rfl), by kernel_rfl⟩
theorem row21 : RowOK Try.prog 21 ⟨.int .i32, 1, 4, [.v (.int .i32 0)], [.int .i32]⟩ := ⟨by kernel_rfl, by kernel_rfl, by kernel_rfl, by kernel_rfl, .inr (by kernel_rfl), by kernel_rfl⟩
theorem row22 : RowOK Try.prog 22 ⟨.slice 44, 1, 24, [.slc [.int .i64, .int .i64, .int .i64]], []⟩ := ⟨by kernel_rfl, by kernel_rfl, by kernel_rfl, by kernel_rfl, .inl (by kernel_rfl), by kernel_rfl⟩
theorem row23 : RowOK Try.prog 23 ⟨.other, 1, 8, [.v .nilFunc], []⟩ := ⟨by kernel_rfl, by kernel_rfl, by kernel_rfl, by kernel_rfl, .inl (by kernel_rfl), by kernel_rfl⟩
theorem row24 : RowOK Try.prog 24 ⟨.slice 42, 1, 24, [.slc [.int .i64, .int .i64, .int .i64]], []⟩ := ⟨by kernel_rfl, by kernel_rfl, by kernel_rfl, by kernel_rfl, .inl (by kernel_rfl), by kernel_rfl⟩
theorem row26 : RowOK Try.prog 26 ⟨.other, 1, 8, [.v .nilFunc], []⟩ := ⟨by kernel_rfl, by kernel_rfl, by kernel_rfl, by kernel_rfl, .inl (by kernel_rfl), by kernel_rfl⟩
theorem row27 : RowOK Try.prog 27 ⟨.other, 1, 8, [.v .nilFunc], []⟩ := ⟨by kernel_rfl, by kernel_rfl, by kernel_rfl, by kernel_rfl, .inl (by kernel_rfl), by kernel_rfl⟩
theorem row28 : RowOK Try.prog 28 ⟨.other, 1, 8, [.v .nilFunc], []⟩ := ⟨by kernel_rfl, by kernel_rfl, by kernel_rfl, by kernel_rfl, .inl (by kernel_rfl), by kernel_rfl⟩
theorem row29 : RowOK Try.prog 29 ⟨.other, 1, 8, [.v .nilFunc], []⟩ := ⟨by kernel_rfl, by kernel_rfl, by kernel_rfl, by kernel_rfl, .inl (by kernel_rfl), by kernel_rfl⟩
theorem row30 : RowOK Try.prog 30 ⟨.other, 1, 8, [.v .nilFunc], []⟩ := ⟨by kernel_rfl, by kernel_rfl, by kernel_rfl, by kernel_rfl, .inl (by kernel_rfl), by kernel_rfl⟩
theorem row31 : RowOK Try.prog 31 ⟨.other, 1, 8, [.v .nilFunc], []⟩ := ⟨by kernel_rfl, by kernel_rfl, by kernel_rfl, by kernel_rfl, .inl (by kernel_rfl), by kernel_rfl⟩
theorem row32 : RowOK Try.prog 32 ⟨.other, 1, 8, [.v .nilFunc], []⟩ := ⟨by kernel_rfl, by kernel_rfl, by kernel_rfl, by kernel_rfl, .inl (by kernel_rfl), by kernel_rfl⟩
theorem row33 : RowOK Try.prog 33 ⟨.slice 5, 1, 24, [.slc [.int .u8]], []⟩ := ⟨by kernel_rfl, by kernel_rfl, by kernel_rfl, by kernel_rfl, .inl (by kernel_rfl), by kernel_rfl⟩
theorem row35 : RowOK Try.prog 35 ⟨.other, 1, 8, [.v .nilFunc], []⟩ := ⟨by kernel_rfl, by kernel_rfl, by kernel_rfl, by kernel_rfl, .inl (by kernel_rfl), by kernel_rfl⟩
theorem row36 : RowOK Try.prog 36 ⟨.other, 1, 8, [.v .nilFunc], []⟩ := ⟨by kernel_rfl, by kernel_rfl, by kernel_rfl, by kernel_rfl, .inl (by kernel_rfl), by kernel_rfl⟩
theorem row37 : RowOK Try.prog 37 ⟨.other, 1, 8, [.v .nilFunc], []⟩ := ⟨by kernel_rfl, by kernel_rfl, by kernel_rfl, by kernel_rfl, .inl (by kernel_rfl), by kernel_rfl⟩
theorem row38 : RowOK Try.prog 38 ⟨.other, 1, 8, [.v .nilFunc], []⟩ := ⟨by kernel_rfl, by kernel_rfl, by kernel_rfl, by kernel_rfl, .inl (by kernel_rfl), by kernel_rfl⟩
theorem row40 : RowOK Try.prog 40 ⟨.other, 1, 8, [.v .nilFunc], []⟩ := ⟨by kernel_rfl, by kernel_rfl, by kernel_rfl, by kernel_rfl, .inl (by kernel_rfl), by kernel_rfl⟩
theorem row41 : RowOK Try.prog 41 ⟨.struct [(0, 1, 3), (1, 1, 3), (2, 1, 3)], 3, 24, [.v (.int .i64 0), .v (.int .i64 0), .v (.int .i64 0)], [.int .i64, .int .i64, .int .i64]⟩ := ⟨by kernel_rfl, by kernel_rfl, by kernel_rfl, by kernel_rfl, .inr (by kernel_rfl), by kernel_rfl⟩
theorem row42 : RowOK Try.prog 42 ⟨.struct [(0, 1, 3), (1, 1, 3), (2, 1, 3)], 3, 24, [.v (.int .i64 0), .v (.int .i64 0), .v (.int .i64 0)], [.int .i64, .int .i64, .int .i64]⟩ := ⟨by kernel_rfl, by kernel_rfl, by kernel_rfl, by kernel_rfl, .inr (by kernel_rfl), by kernel_rfl⟩
theorem row43 : RowOK Try.prog 43 ⟨.other, 1, 8, [.v .nilFunc], []⟩ := ⟨by kernel_rfl, by kernel_rfl, by kernel_rfl, by kernel_rfl, .inl (by kernel_rfl), by kernel_rfl⟩
theorem row44 : RowOK Try.prog 44 ⟨.struct [(0, 1, 3), (1, 1, 3), (2, 1, 3)], 3, 24, [.v (.int .i64 0), .v (.int .i64 0), .v (.int .i64 0)], [.int .i64, .int .i64, .int .i64]⟩ := ⟨by kernel_rfl, by kernel_rfl, by kernel_rfl, by kernel_rfl, .inr (by kernel_rfl), by kernel_rfl⟩
theorem row45 : RowOK Try.prog 45 ⟨.other, 1, 8, [.v .nilFunc], []⟩ := ⟨by kernel_rfl, by kernel_rfl, by kernel_rfl, by kernel_rfl, .inl (by kernel_rfl), by kernel_rfl⟩
theorem row46 : RowOK Try.prog 46 ⟨.other, 1, 8, [.v .nilFunc], []⟩ := ⟨by kernel_rfl, by kernel_rfl, by kernel_rfl, by kernel_rfl, .inl (by kernel_rfl), by kernel_rfl⟩
theorem row47 : RowOK Try.prog 47 ⟨.other, 1, 8, [.v (.pointer none)], []⟩ := ⟨by kernel_rfl, by kernel_rfl, by kernel_rfl, by kernel_rfl, .inl (by kernel_rfl), by kernel_rfl⟩
theorem row48 : RowOK Try.prog 48 ⟨.other, 1, 8, [.v .nilFunc], []⟩ := ⟨by kernel_rfl, by kernel_rfl, by kernel_rfl, by kernel_rfl, .inl (by kernel_rfl), by kernel_rfl⟩
theorem row49 : RowOK Try.prog 49 ⟨.slice 9, 1, 24, [.slc [.str]], []⟩ := ⟨by kernel_rfl, by kernel_rfl, by kernel_rfl, by kernel_rfl, .inl (by kernel_rfl), by kernel_rfl⟩
theorem row50 : RowOK Try.prog 50 ⟨.array 2 49, 2, 48, [.slc [.str], .slc [.str]], []⟩ := ⟨by kernel_rfl, by kernel_rfl, by kernel_rfl, by kernel_rfl, .inl (by kernel_rfl), by kernel_rfl⟩
theorem row51 : RowOK Try.prog 51 ⟨.slice 81, 1, 24, [.slc [.int .i64, .int .i64, .str]], []⟩ := ⟨by kernel_rfl, by kernel_rfl, by kernel_rfl, by kernel_rfl, .inl (by kernel_rfl), by kernel_rfl⟩
theorem row52 : RowOK Try.prog 52 ⟨.struct [(0, 2, 50), (2, 1, 51)], 3, 72, [.slc [.str], .slc [.str], .slc [.int .i64, .int .i64, .str]], []⟩ := ⟨by kernel_rfl, by kernel_rfl, by kernel_rfl, by kernel_rfl, .inl (by kernel_rfl), by kernel_rfl⟩
theorem row53 : RowOK Try.prog 53 ⟨.struct [(0, 2, 50), (2, 1, 51)], 3, 72, [.slc [.str], .slc [.str], .slc [.int .i64, .int .i64, .str]], []⟩ := ⟨by kernel_rfl, by kernel_rfl, by kernel_rfl, by kernel_rfl, .inl (by kernel_rfl), by kernel_rfl⟩
theorem row55 : RowOK Try.prog 55 ⟨.other, 1, 8, [.v .nilFunc], []⟩ := ⟨by kernel_rfl, by kernel_rfl, by kernel_rfl, by kernel_rfl, .inl (by kernel_rfl), by kernel_rfl⟩
theorem row56 : RowOK Try.prog 56 ⟨.other, 1, 8, [.v .nilFunc], []⟩ := ⟨by kernel_rfl, by kernel_rfl, by kernel_rfl, by kernel_rfl, .inl (by kernel_rfl), by kernel_rfl⟩
theorem row57 : RowOK Try.prog 57 ⟨.slice 3, 1, 24, [.slc [.int .i64]], []⟩ := ⟨by kernel_rfl, by kernel_rfl, by kernel_rfl, by kernel_rfl, .inl (by kernel_rfl), by kernel_rfl⟩
theorem row58 : RowOK Try.prog 58 ⟨.other, 1, 8, [.v .nilFunc], []⟩ := ⟨by kernel_rfl, by kernel_rfl, by kernel_rfl, by kernel_rfl, .inl (by kernel_rfl), by kernel_rfl⟩
theorem row59 : RowOK Try.prog 59 ⟨.other, 1, 8, [.v .nilFunc], []⟩ := ⟨by kernel_rfl, by kernel_rfl, by kernel_rfl, by kernel_rfl, .inl (by kernel_rfl), by kernel_rfl⟩
theorem row60 : RowOK Try.prog 60 ⟨.other, 1, 8, [.v .nilFunc], []⟩ := ⟨by kernel_rfl, by kernel_rfl, by kernel_rfl, by kernel_rfl, .inl (by kernel_rfl), by kernel_rfl⟩
theorem row61 : RowOK Try.prog 61 ⟨.other, 1, 8, [.v .nilFunc], []⟩ := ⟨by kernel_rfl, by kernel_rfl, by kernel_rfl, by kernel_rfl, .inl (by kernel_rfl), by kernel_rfl⟩
theorem row62 : RowOK Try.prog 62 ⟨.struct [(0, 1, 33), (1, 1, 3)], 2, 32, [.slc [.int .u8], .v (.int .i64 0)], []⟩ := ⟨by kernel_rfl, by kernel_rfl, by kernel_rfl, by kernel_rfl, .inl (by kernel_rfl), by kernel_rfl⟩
theorem row63 : RowOK Try.prog 63 ⟨.struct [(0, 1, 33), (1, 1, 3)], 2, 32, [.slc [.int .u8], .v (.int .i64 0)], []⟩ := ⟨by kernel_rfl, by kernel_rfl, by kernel_rfl, by kernel_rfl, .inl (by kernel_rfl), by kernel_rfl⟩
theorem row64 : RowOK Try.prog 64 ⟨.other, 1, 8, [.v .nilFunc], []⟩ := ⟨by kernel_rfl, by kernel_rfl, by kernel_rfl, by kernel_rfl, .inl (by kernel_rfl), by kernel_rfl⟩
theorem row65 : RowOK Try.prog 65 ⟨.other, 1, 8, [.v .nilFunc], []⟩ := ⟨by kernel_rfl, by kernel_rfl, by kernel_rfl, by kernel_rfl, .inl (by kernel_rfl), by kernel_rfl⟩
theorem row67 : RowOK Try.prog 67 ⟨.other, 1, 8, [.v .nilFunc], []⟩ := ⟨by kernel_rfl, by kernel_rfl, by kernel_rfl, by kernel_rfl, .inl (by kernel_rfl), by kernel_rfl⟩
theorem row69 : RowOK Try.prog 69 ⟨.other, 1, 8, [.v .nilFunc], []⟩ := ⟨by kernel_rfl, by kernel_rfl, by kernel_rfl, by kernel_rfl, .inl (by kernel_rfl), by kernel_rfl⟩
theorem row70 : RowOK Try.prog 70 ⟨.other, 1, 8, [.v .nilFunc], []⟩ := ⟨by kernel_rfl, by kernel_rfl, by kernel_rfl, by kernel_rfl, .inl (by kernel_rfl), by kernel_rfl⟩
theorem row71 : RowOK Try.prog 71 ⟨.other, 1, 8, [.v .nilFunc], []⟩ := ⟨by kernel_rfl, by kernel_rfl, by kernel_rfl, by kernel_rfl, .inl (by kernel_rfl), by kernel_rfl⟩
theorem row72 : RowOK Try.prog 72 ⟨.other, 1, 8, [.v .nilFunc], []⟩ := ⟨by kernel_rfl, by kernel_rfl, by kernel_rfl, by kernel_rfl, .inl (by kernel_rfl), by kernel_rfl⟩
theorem row73 : RowOK Try.prog 73 ⟨.other, 1, 8, [.v .nilFunc], []⟩ := ⟨by kernel_rfl, by kernel_rfl, by kernel_rfl, by kernel_rfl, .inl (by kernel_rfl), by kernel_rfl⟩
theorem row74 : RowOK Try.prog 74 ⟨.other, 1, 8, [.v .nilFunc], []⟩ := ⟨by kernel_rfl, by kernel_rfl, by kernel_rfl, by kernel_rfl, .inl (by kernel_rfl), by kernel_rfl⟩
theorem row75 : RowOK Try.prog 75 ⟨.other, 1, 8, [.v .nilFunc], []⟩ := ⟨by kernel_rfl, by kernel_rfl, by kernel_rfl, by kernel_rfl, .inl (by kernel_rfl), by kernel_rfl⟩
theorem row76 : RowOK Try.prog 76 ⟨.other, 1, 8, [.v .nilFunc], []⟩ := ⟨by kernel_rfl, by kernel_rfl, by kernel_rfl, by kernel_rfl, .inl (by kernel_rfl), by kernel_rfl⟩
theorem row77 : RowOK Try.prog 77 ⟨.other, 1, 8, [.v .nilFunc], []⟩ := ⟨by kernel_rfl, by kernel_rfl, by kernel_rfl, by kernel_rfl, .inl (by kernel_rfl), by kernel_rfl⟩
theorem row78 : RowOK Try.prog 78 ⟨.other, 1, 8, [.v .nilFunc], []⟩ := ⟨by kernel_rfl, by kernel_rfl, by kernel_rfl, by kernel_rfl, .inl (by kernel_rfl), by kernel_rfl⟩
theorem row79 : RowOK Try.prog 79 ⟨.int .u64, 1, 8, [.v (.int .u64 0)], [.int .u64]⟩ := ⟨by kernel_rfl, by kernel_rfl, by kernel_rfl, by kernel_rfl, .inr (by kernel_rfl), by kernel_rfl⟩
theorem row80 : RowOK Try.prog 80 ⟨.struct [(0, 1, 3), (1, 1, 3), (2, 1, 9)], 3, 32, [.v (.int .i64 0), .v (.int .i64 0), .v (.string ByteArray.empty)], [.int .i64, .int .i64, .str]⟩ := ⟨by kernel_rfl, by kernel_rfl, by kernel_rfl, by kernel_rfl, .inr (by kernel_rfl), by kernel_rfl⟩
theorem row81 : RowOK Try.prog 81 ⟨.struct [(0, 1, 3), (1, 1, 3), (2, 1, 9)], 3, 32, [.v (.int .i64 0), .v (.int .i64 0), .v (.string ByteArray.empty)], [.int .i64, .int .i64, .str]⟩ := ⟨by kernel_rfl, by kernel_rfl, by kernel_rfl, by kernel_rfl, .inr (by kernel_rfl), by kernel_rfl⟩
theorem row82 : RowOK Try.prog 82 ⟨.other, 1, 8, [.v .nilFunc], []⟩ := ⟨by kernel_rfl, by kernel_rfl, by kernel_rfl, by kernel_rfl, .inl (by kernel_rfl), by kernel_rfl⟩
theorem row83 : RowOK Try.prog 83 ⟨.other, 1, 8, [.v .nilFunc], []⟩ := ⟨by kernel_rfl, by kernel_rfl, by kernel_rfl, by kernel_rfl, .inl (by kernel_rfl), by kernel_rfl⟩
theorem row84 : RowOK Try.prog 84 ⟨.struct [(0, 1, 17), (1, 1, 17), (2, 1, 17), (3, 1, 9)], 4, 40, [.v (.pointer none), .v (.pointer none), .v (.pointer none), .v (.string ByteArray.empty)], []⟩ := ⟨by kernel_rfl, by kernel_rfl, by kernel_rfl, by kernel_rfl, .inl (by kernel_rfl), by kernel_rfl⟩
theorem row85 : RowOK Try.prog 85 ⟨.struct [(0, 1, 17), (1, 1, 17), (2, 1, 17), (3, 1, 9)], 4, 40, [.v (.pointer none), .v (.pointer none), .v (.pointer none), .v (.string ByteArray.empty)], []⟩ := ⟨by kernel_rfl, by kernel_rfl, by kernel_rfl, by kernel_rfl, .inl (by kernel_rfl), by kernel_rfl⟩
theorem row86 : RowOK Try.prog 86 ⟨.array 0 16, 0, 0, [], []⟩ := ⟨by kernel_rfl, by kernel_rfl, by kernel_rfl, by kernel_rfl, .inl (by kernel_rfl), by kernel_rfl⟩
theorem row87 : RowOK Try.prog 87 ⟨.struct [(0, 0, 86)], 0, 0, [], []⟩ := ⟨by kernel_rfl, by kernel_rfl, by kernel_rfl, by kernel_rfl, .inl (by kernel_rfl), by kernel_rfl⟩
theorem row88 : RowOK Try.prog 88 ⟨.struct [(0, 0, 86)], 0, 0, [], []⟩ := ⟨by kernel_rfl, by kernel_rfl, by kernel_rfl, by kernel_rfl, .inl (by kernel_rfl), by kernel_rfl⟩
theorem row89 : RowOK Try.prog 89 ⟨.other, 1, 8, [.v .nilFunc], []⟩ := ⟨by kernel_rfl, by kernel_rfl, by kernel_rfl, by kernel_rfl, .inl (by kernel_rfl), by kernel_rfl⟩
theorem row90 : RowOK Try.prog 90 ⟨.int .u32, 1, 4, [.v (.int .u32 0)], [.int .u32]⟩ := ⟨by kernel_rfl, by kernel_rfl, by kernel_rfl, by kernel_rfl, .inr (by kernel_rfl), by kernel_rfl⟩
theorem row91 : RowOK Try.prog 91 ⟨.int .u8, 1, 1, [.v (.int .u8 0)], [.int .u8]⟩ := ⟨by kernel_rfl, by kernel_rfl, by kernel_rfl, by kernel_rfl, .inr (by kernel_rfl), by kernel_rfl⟩
theorem row92 : RowOK Try.prog 92 ⟨.int .u8, 1, 1, [.v (.int .u8 0)], [.int .u8]⟩ := ⟨by kernel_rfl, by kernel_rfl, by kernel_rfl, by kernel_rfl, .inr (by kernel_rfl), by kernel_rfl⟩
theorem row93 : RowOK Try.prog 93 ⟨.other, 1, 8, [.v .nilFunc], []⟩ := ⟨by kernel_rfl, by kernel_rfl, by kernel_rfl, by kernel_rfl, .inl (by kernel_rfl), by kernel_rfl⟩
theorem row94 : RowOK Try.prog 94 ⟨.other, 1, 8, [.v (.pointer none)], []⟩ := ⟨by kernel_rfl, by kernel_rfl, by kernel_rfl, by kernel_rfl, .inl (by kernel_rfl), by kernel_rfl⟩
theorem row95 : RowOK Try.prog 95 ⟨.int .i32, 1, 4, [.v (.int .i32 0)], [.int .i32]⟩ := ⟨by kernel_rfl, by kernel_rfl, by kernel_rfl, by kernel_rfl, .inr (by kernel_rfl), by kernel_rfl⟩
theorem row96 : RowOK Try.prog 96 ⟨.int .i32, 1, 4, [.v (.int .i32 0)], [.int .i32]⟩ := ⟨by kernel_rfl, by kernel_rfl, by kernel_rfl, by kernel_rfl, .inr (by kernel_rfl), by kernel_rfl⟩
theorem row97 : RowOK Try.prog 97 ⟨.struct [(0, 1, 12), (1, 1, 12), (2, 1, 90), (3, 1, 91), (4, 1, 5), (5, 1, 5), (6, 1, 92), (7, 1, 93), (8, 1, 94), (9, 1, 95), (10, 1, 96)], 11, 48, [.v (.int .u64 0), .v (.int .u64 0), .v (.int .u32 0), .v (.int .u8 0), .v (.int .u8 0), .v (.int .u8 0), .v (.int .u8 0), .v .nilFunc, .v (.pointer none), .v (.int .i32 0), .v (.int .i32 0)], []⟩ := ⟨by kernel_rfl, by kernel_rfl, by kernel_rfl, by kernel_rfl, .inl (by kernel_rfl), by kernel_rfl⟩
theorem row98 : RowOK Try.prog 98 ⟨.struct [(0, 1, 12), (1, 1, 12), (2, 1, 90), (3, 1, 91), (4, 1, 5), (5, 1, 5), (6, 1, 92), (7, 1, 93), (8, 1, 94), (9, 1, 95), (10, 1, 96)], 11, 48, [.v (.int .u64 0), .v (.int .u64 0), .v (.int .u32 0), .v (.int .u8 0), .v (.int .u8 0), .v (.int .u8 0), .v (.int .u8 0), .v .nilFunc, .v (.pointer none), .v (.int .i32 0), .v (.int .i32 0)], []⟩ := ⟨by kernel_rfl, by kernel_rfl, by kernel_rfl, by kernel_rfl, .inl (by kernel_rfl), by kernel_rfl⟩
theorem row99 : RowOK Try.prog 99 ⟨.other, 1, 8, [.v .nilFunc], []⟩ := ⟨by kernel_rfl, by kernel_rfl, by kernel_rfl, by kernel_rfl, .inl (by kernel_rfl), by kernel_rfl⟩
theorem row100 : RowOK Try.prog 100 ⟨.other, 1, 8, [.v .nilFunc], []⟩ := ⟨by kernel_rfl, by kernel_rfl, by kernel_rfl, by kernel_rfl, .inl (by kernel_rfl), by kernel_rfl⟩
theorem row102 : RowOK Try.prog 102 ⟨.int .u64, 1, 8, [.v (.int .u64 0)], [.int .u64]⟩ := ⟨by kernel_rfl, by kernel_rfl, by kernel_rfl, by kernel_rfl, .inr (by kernel_rfl), by kernel_rfl⟩
theorem ttOK : TTOK Try.prog tt := RowsOK.all tt ⟨row1, row2, row3, row4, row5, row6, row7, row8, row9, row10, row11, row12, row13, row14, row15, row16, row17, row18, row19, row20, row21, row22, row23, row24, row26, row27, row28, row29, row30, row31, row32, row33, row35, row36, row37, row38, row40, row41, row42, row43, row44, row45, row46, row47, row48, row49, row50, row51, row52, row53, row55, row56, row57, row58, row59, row60, row61, row62, row63, row64, row65, row67, row69, row70, row71, row72, row73, row74, row75, row76, row77, row78, row79, row80, row81, row82, row83, row84, row85, row86, row87, row88, row89, row90, row91, row92, row93, row94, row95, row96, row97, row98, row99, row100, row102, trivial⟩
def E0 : Env := ⟨tt, [], [42], .skip, []⟩
theorem eqsOK : EqsOK Try.prog E0 := eqs_ok (eqs_one (ti := ⟨.struct [(0, 1, 3), (1, 1, 3), (2, 1, 3)], 3, 24, [.v (.int .i64 0), .v (.int .i64 0), .v (.int .i64 0)], [.int .i64, .int .i64, .int .i64]⟩) (by kernel_rfl) ⟨by kernel_rfl, by kernel_rfl, by kernel_rfl⟩ (trivial))
theorem ok0 : Ok Try.prog E0 := ⟨ttOK, eqsOK, by kernel_rfl⟩
end Go.Proofs.Ytkjnijddbiconaa.Ev

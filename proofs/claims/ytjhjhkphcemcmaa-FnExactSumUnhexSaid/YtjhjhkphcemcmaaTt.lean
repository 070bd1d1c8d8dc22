/- The table of the program's types: each row says what the program's own table says. -/
import Derived.Test.YtjhjhkphcemcmaaEv22
import Derived.Test.YtjhjhkphcemcmaaProg
namespace Go.Proofs.Ytjhjhkphcemcmaa.Ev
open Go
set_option maxRecDepth 100000
def tt : List (Nat × TI) := [
  (1, ⟨.other, 1, 8, [.v .nilFunc], []⟩),
  (2, ⟨.int .i64, 1, 8, [.v (.int .i64 0)], [.int .i64]⟩),
  (3, ⟨.int .i64, 1, 8, [.v (.int .i64 0)], [.int .i64]⟩),
  (4, ⟨.bool, 1, 1, [.v (.bool false)], [.bool]⟩),
  (5, ⟨.int .u8, 1, 1, [.v (.int .u8 0)], [.int .u8]⟩),
  (6, ⟨.int .u8, 1, 1, [.v (.int .u8 0)], [.int .u8]⟩),
  (7, ⟨.struct [(0, 1, 2), (1, 1, 3), (2, 1, 4), (3, 1, 6)], 4, 24, [.v (.int .i64 0), .v (.int .i64 0), .v (.bool false), .v (.int .u8 0)], [.int .i64, .int .i64, .bool, .int .u8]⟩),
  (8, ⟨.struct [(0, 1, 2), (1, 1, 3), (2, 1, 4), (3, 1, 6)], 4, 24, [.v (.int .i64 0), .v (.int .i64 0), .v (.bool false), .v (.int .u8 0)], [.int .i64, .int .i64, .bool, .int .u8]⟩),
  (9, ⟨.str, 1, 16, [.v (.string ByteArray.empty)], [.str]⟩),
  (10, ⟨.str, 1, 16, [.v (.string ByteArray.empty)], [.str]⟩),
  (11, ⟨.str, 1, 16, [.v (.string ByteArray.empty)], [.str]⟩),
  (12, ⟨.int .u64, 1, 8, [.v (.int .u64 0)], [.int .u64]⟩),
  (13, ⟨.struct [(0, 1, 9), (1, 1, 12)], 2, 24, [.v (.string ByteArray.empty), .v (.int .u64 0)], [.str, .int .u64]⟩),
  (14, ⟨.struct [(0, 1, 9), (1, 1, 12)], 2, 24, [.v (.string ByteArray.empty), .v (.int .u64 0)], [.str, .int .u64]⟩),
  (15, ⟨.other, 1, 8, [.v (.pointer none)], []⟩),
  (16, ⟨.other, 1, 8, [.v (.pointer none)], []⟩),
  (17, ⟨.other, 1, 8, [.v (.pointer none)], []⟩),
  (18, ⟨.struct [(0, 1, 17)], 1, 8, [.v (.pointer none)], []⟩),
  (19, ⟨.struct [(0, 1, 17)], 1, 8, [.v (.pointer none)], []⟩),
  (20, ⟨.iface, 1, 16, [.v .nilIface], []⟩),
  (21, ⟨.int .i32, 1, 4, [.v (.int .i32 0)], [.int .i32]⟩),
  (22, ⟨.struct [(0, 1, 3), (1, 1, 3), (2, 1, 3)], 3, 24, [.v (.int .i64 0), .v (.int .i64 0), .v (.int .i64 0)], [.int .i64, .int .i64, .int .i64]⟩),
  (23, ⟨.struct [(0, 1, 3), (1, 1, 3), (2, 1, 3)], 3, 24, [.v (.int .i64 0), .v (.int .i64 0), .v (.int .i64 0)], [.int .i64, .int .i64, .int .i64]⟩),
  (24, ⟨.other, 1, 8, [.v .nilFunc], []⟩),
  (25, ⟨.struct [(0, 1, 3), (1, 1, 3), (2, 1, 3)], 3, 24, [.v (.int .i64 0), .v (.int .i64 0), .v (.int .i64 0)], [.int .i64, .int .i64, .int .i64]⟩),
  (26, ⟨.other, 1, 8, [.v .nilFunc], []⟩),
  (27, ⟨.other, 1, 8, [.v .nilFunc], []⟩),
  (29, ⟨.other, 1, 8, [.v .nilFunc], []⟩),
  (30, ⟨.other, 1, 8, [.v .nilFunc], []⟩),
  (31, ⟨.slice 100, 1, 24, [.slc [.int .i64, .int .i64, .int .i64]], []⟩),
  (32, ⟨.other, 1, 8, [.v .nilFunc], []⟩),
  (33, ⟨.other, 1, 8, [.v .nilFunc], []⟩),
  (34, ⟨.slice 98, 1, 24, [.slc [.int .i64, .int .i64, .int .i64]], []⟩),
  (35, ⟨.other, 1, 8, [.v .nilFunc], []⟩),
  (36, ⟨.other, 1, 8, [.v .nilFunc], []⟩),
  (37, ⟨.other, 1, 8, [.v .nilFunc], []⟩),
  (38, ⟨.other, 1, 8, [.v .nilFunc], []⟩),
  (39, ⟨.other, 1, 8, [.v .nilFunc], []⟩),
  (40, ⟨.slice 145, 1, 24, [.slc [.str, .int .i64, .str, .str, .str, .str, .str, .str, .str, .str, .str]], []⟩),
  (41, ⟨.struct [(0, 1, 40)], 1, 24, [.slc [.str, .int .i64, .str, .str, .str, .str, .str, .str, .str, .str, .str]], []⟩),
  (42, ⟨.struct [(0, 1, 40)], 1, 24, [.slc [.str, .int .i64, .str, .str, .str, .str, .str, .str, .str, .str, .str]], []⟩),
  (43, ⟨.other, 1, 8, [.v .nilFunc], []⟩),
  (44, ⟨.other, 1, 8, [.v .nilFunc], []⟩),
  (45, ⟨.slice 107, 1, 24, [.slc [.str, .int .i64, .str, .str, .str, .str, .str, .str, .str, .str, .str]], []⟩),
  (46, ⟨.struct [(0, 1, 45)], 1, 24, [.slc [.str, .int .i64, .str, .str, .str, .str, .str, .str, .str, .str, .str]], []⟩),
  (47, ⟨.struct [(0, 1, 45)], 1, 24, [.slc [.str, .int .i64, .str, .str, .str, .str, .str, .str, .str, .str, .str]], []⟩),
  (48, ⟨.other, 1, 8, [.v .nilFunc], []⟩),
  (49, ⟨.other, 1, 8, [.v .nilFunc], []⟩),
  (50, ⟨.slice 9, 1, 24, [.slc [.str]], []⟩),
  (51, ⟨.array 2 50, 2, 48, [.slc [.str], .slc [.str]], []⟩),
  (52, ⟨.slice 117, 1, 24, [.slc [.int .i64, .int .i64, .str]], []⟩),
  (53, ⟨.struct [(0, 2, 51), (2, 1, 52)], 3, 72, [.slc [.str], .slc [.str], .slc [.int .i64, .int .i64, .str]], []⟩),
  (54, ⟨.struct [(0, 2, 51), (2, 1, 52)], 3, 72, [.slc [.str], .slc [.str], .slc [.int .i64, .int .i64, .str]], []⟩),
  (55, ⟨.other, 1, 8, [.v .nilFunc], []⟩),
  (56, ⟨.other, 1, 8, [.v .nilFunc], []⟩),
  (57, ⟨.other, 1, 8, [.v .nilFunc], []⟩),
  (58, ⟨.other, 1, 8, [.v .nilFunc], []⟩),
  (59, ⟨.slice 152, 1, 24, [.slc [.int .i64, .int .i64, .str]], []⟩),
  (60, ⟨.struct [(0, 2, 51), (2, 1, 59)], 3, 72, [.slc [.str], .slc [.str], .slc [.int .i64, .int .i64, .str]], []⟩),
  (61, ⟨.struct [(0, 2, 51), (2, 1, 59)], 3, 72, [.slc [.str], .slc [.str], .slc [.int .i64, .int .i64, .str]], []⟩),
  (62, ⟨.other, 1, 8, [.v .nilFunc], []⟩),
  (63, ⟨.other, 1, 8, [.v .nilFunc], []⟩),
  (64, ⟨.other, 1, 8, [.v .nilFunc], []⟩),
  (65, ⟨.other, 1, 8, [.v .nilFunc], []⟩),
  (66, ⟨.other, 1, 8, [.v .nilFunc], []⟩),
  (68, ⟨.other, 1, 8, [.v .nilFunc], []⟩),
  (69, ⟨.other, 1, 8, [.v .nilFunc], []⟩),
  (70, ⟨.other, 1, 8, [.v .nilFunc], []⟩),
  (71, ⟨.other, 1, 8, [.v .nilFunc], []⟩),
  (72, ⟨.other, 1, 8, [.v .nilFunc], []⟩),
  (74, ⟨.other, 1, 8, [.v .nilFunc], []⟩),
  (75, ⟨.other, 1, 8, [.v .nilFunc], []⟩),
  (76, ⟨.other, 1, 8, [.v .nilFunc], []⟩),
  (77, ⟨.other, 1, 8, [.v .nilFunc], []⟩),
  (78, ⟨.slice 162, 1, 24, [.slc [.str, .int .i64, .str, .int .i64, .int .i64, .int .i64, .int .i64, .int .i64, .int .i64, .int .i64, .int .i64, .int .i64, .int .i64, .int .i64, .int .i64, .int .i64, .int .i64, .int .i64, .int .i64, .int .i64, .int .i64, .int .i64, .int .i64, .int .i64, .int .i64, .int .i64, .int .i64, .int .i64, .int .i64, .int .i64, .bool]], []⟩),
  (79, ⟨.slice 23, 1, 24, [.slc [.int .i64, .int .i64, .int .i64]], []⟩),
  (80, ⟨.slice 3, 1, 24, [.slc [.int .i64]], []⟩),
  (81, ⟨.struct [(0, 1, 3), (1, 1, 78), (2, 1, 31), (3, 1, 79), (4, 1, 4), (5, 1, 80), (6, 1, 3)], 7, 120, [.v (.int .i64 0), .slc [.str, .int .i64, .str, .int .i64, .int .i64, .int .i64, .int .i64, .int .i64, .int .i64, .int .i64, .int .i64, .int .i64, .int .i64, .int .i64, .int .i64, .int .i64, .int .i64, .int .i64, .int .i64, .int .i64, .int .i64, .int .i64, .int .i64, .int .i64, .int .i64, .int .i64, .int .i64, .int .i64, .int .i64, .int .i64, .bool], .slc [.int .i64, .int .i64, .int .i64], .slc [.int .i64, .int .i64, .int .i64], .v (.bool false), .slc [.int .i64], .v (.int .i64 0)], []⟩),
  (82, ⟨.struct [(0, 1, 3), (1, 1, 78), (2, 1, 31), (3, 1, 79), (4, 1, 4), (5, 1, 80), (6, 1, 3)], 7, 120, [.v (.int .i64 0), .slc [.str, .int .i64, .str, .int .i64, .int .i64, .int .i64, .int .i64, .int .i64, .int .i64, .int .i64, .int .i64, .int .i64, .int .i64, .int .i64, .int .i64, .int .i64, .int .i64, .int .i64, .int .i64, .int .i64, .int .i64, .int .i64, .int .i64, .int .i64, .int .i64, .int .i64, .int .i64, .int .i64, .int .i64, .int .i64, .bool], .slc [.int .i64, .int .i64, .int .i64], .slc [.int .i64, .int .i64, .int .i64], .v (.bool false), .slc [.int .i64], .v (.int .i64 0)], []⟩),
  (83, ⟨.other, 1, 8, [.v .nilFunc], []⟩),
  (84, ⟨.other, 1, 8, [.v .nilFunc], []⟩),
  (85, ⟨.slice 136, 1, 24, [.slc [.str, .int .i64, .str, .int .i64, .int .i64, .int .i64, .int .i64, .int .i64, .int .i64, .int .i64, .int .i64, .int .i64, .int .i64, .int .i64, .int .i64, .int .i64, .int .i64, .int .i64, .int .i64, .int .i64, .int .i64, .int .i64, .int .i64, .int .i64, .int .i64, .int .i64, .int .i64, .int .i64, .int .i64, .int .i64, .bool]], []⟩),
  (86, ⟨.slice 25, 1, 24, [.slc [.int .i64, .int .i64, .int .i64]], []⟩),
  (87, ⟨.struct [(0, 1, 3), (1, 1, 85), (2, 1, 34), (3, 1, 86), (4, 1, 4), (5, 1, 80), (6, 1, 3)], 7, 120, [.v (.int .i64 0), .slc [.str, .int .i64, .str, .int .i64, .int .i64, .int .i64, .int .i64, .int .i64, .int .i64, .int .i64, .int .i64, .int .i64, .int .i64, .int .i64, .int .i64, .int .i64, .int .i64, .int .i64, .int .i64, .int .i64, .int .i64, .int .i64, .int .i64, .int .i64, .int .i64, .int .i64, .int .i64, .int .i64, .int .i64, .int .i64, .bool], .slc [.int .i64, .int .i64, .int .i64], .slc [.int .i64, .int .i64, .int .i64], .v (.bool false), .slc [.int .i64], .v (.int .i64 0)], []⟩),
  (88, ⟨.struct [(0, 1, 3), (1, 1, 85), (2, 1, 34), (3, 1, 86), (4, 1, 4), (5, 1, 80), (6, 1, 3)], 7, 120, [.v (.int .i64 0), .slc [.str, .int .i64, .str, .int .i64, .int .i64, .int .i64, .int .i64, .int .i64, .int .i64, .int .i64, .int .i64, .int .i64, .int .i64, .int .i64, .int .i64, .int .i64, .int .i64, .int .i64, .int .i64, .int .i64, .int .i64, .int .i64, .int .i64, .int .i64, .int .i64, .int .i64, .int .i64, .int .i64, .int .i64, .int .i64, .bool], .slc [.int .i64, .int .i64, .int .i64], .slc [.int .i64, .int .i64, .int .i64], .v (.bool false), .slc [.int .i64], .v (.int .i64 0)], []⟩),
  (89, ⟨.other, 1, 8, [.v .nilFunc], []⟩),
  (90, ⟨.other, 1, 8, [.v .nilFunc], []⟩),
  (91, ⟨.other, 1, 8, [.v .nilFunc], []⟩),
  (92, ⟨.other, 1, 8, [.v .nilFunc], []⟩),
  (93, ⟨.other, 1, 8, [.v .nilFunc], []⟩),
  (94, ⟨.slice 5, 1, 24, [.slc [.int .u8]], []⟩),
  (95, ⟨.other, 1, 8, [.v .nilFunc], []⟩),
  (96, ⟨.other, 1, 8, [.v .nilFunc], []⟩),
  (97, ⟨.struct [(0, 1, 3), (1, 1, 3), (2, 1, 3)], 3, 24, [.v (.int .i64 0), .v (.int .i64 0), .v (.int .i64 0)], [.int .i64, .int .i64, .int .i64]⟩),
  (98, ⟨.struct [(0, 1, 3), (1, 1, 3), (2, 1, 3)], 3, 24, [.v (.int .i64 0), .v (.int .i64 0), .v (.int .i64 0)], [.int .i64, .int .i64, .int .i64]⟩),
  (99, ⟨.other, 1, 8, [.v .nilFunc], []⟩),
  (100, ⟨.struct [(0, 1, 3), (1, 1, 3), (2, 1, 3)], 3, 24, [.v (.int .i64 0), .v (.int .i64 0), .v (.int .i64 0)], [.int .i64, .int .i64, .int .i64]⟩),
  (101, ⟨.other, 1, 8, [.v .nilFunc], []⟩),
  (103, ⟨.other, 1, 8, [.v .nilFunc], []⟩),
  (104, ⟨.other, 1, 8, [.v .nilFunc], []⟩),
  (105, ⟨.array 8 9, 8, 128, [.v (.string ByteArray.empty), .v (.string ByteArray.empty), .v (.string ByteArray.empty), .v (.string ByteArray.empty), .v (.string ByteArray.empty), .v (.string ByteArray.empty), .v (.string ByteArray.empty), .v (.string ByteArray.empty)], [.str, .str, .str, .str, .str, .str, .str, .str]⟩),
  (106, ⟨.struct [(0, 1, 9), (1, 1, 3), (2, 1, 9), (3, 8, 105)], 11, 168, [.v (.string ByteArray.empty), .v (.int .i64 0), .v (.string ByteArray.empty), .v (.string ByteArray.empty), .v (.string ByteArray.empty), .v (.string ByteArray.empty), .v (.string ByteArray.empty), .v (.string ByteArray.empty), .v (.string ByteArray.empty), .v (.string ByteArray.empty), .v (.string ByteArray.empty)], [.str, .int .i64, .str, .str, .str, .str, .str, .str, .str, .str, .str]⟩),
  (107, ⟨.struct [(0, 1, 9), (1, 1, 3), (2, 1, 9), (3, 8, 105)], 11, 168, [.v (.string ByteArray.empty), .v (.int .i64 0), .v (.string ByteArray.empty), .v (.string ByteArray.empty), .v (.string ByteArray.empty), .v (.string ByteArray.empty), .v (.string ByteArray.empty), .v (.string ByteArray.empty), .v (.string ByteArray.empty), .v (.string ByteArray.empty), .v (.string ByteArray.empty)], [.str, .int .i64, .str, .str, .str, .str, .str, .str, .str, .str, .str]⟩),
  (108, ⟨.other, 1, 8, [.v .nilFunc], []⟩),
  (109, ⟨.other, 1, 8, [.v .nilFunc], []⟩),
  (110, ⟨.other, 1, 8, [.v .nilFunc], []⟩),
  (111, ⟨.other, 1, 8, [.v .nilFunc], []⟩),
  (112, ⟨.other, 1, 8, [.v .nilFunc], []⟩),
  (113, ⟨.other, 1, 8, [.v .nilFunc], []⟩),
  (114, ⟨.other, 1, 8, [.v .nilFunc], []⟩),
  (115, ⟨.other, 1, 8, [.v .nilFunc], []⟩),
  (116, ⟨.struct [(0, 1, 3), (1, 1, 3), (2, 1, 9)], 3, 32, [.v (.int .i64 0), .v (.int .i64 0), .v (.string ByteArray.empty)], [.int .i64, .int .i64, .str]⟩),
  (117, ⟨.struct [(0, 1, 3), (1, 1, 3), (2, 1, 9)], 3, 32, [.v (.int .i64 0), .v (.int .i64 0), .v (.string ByteArray.empty)], [.int .i64, .int .i64, .str]⟩),
  (118, ⟨.other, 1, 8, [.v .nilFunc], []⟩),
  (119, ⟨.other, 1, 8, [.v .nilFunc], []⟩),
  (120, ⟨.other, 1, 8, [.v .nilFunc], []⟩),
  (121, ⟨.other, 1, 8, [.v .nilFunc], []⟩),
  (122, ⟨.other, 1, 8, [.v .nilFunc], []⟩),
  (123, ⟨.other, 1, 8, [.v .nilFunc], []⟩),
  (124, ⟨.other, 1, 8, [.v .nilFunc], []⟩),
  (125, ⟨.other, 1, 8, [.v .nilFunc], []⟩),
  (126, ⟨.other, 1, 8, [.v .nilFunc], []⟩),
  (127, ⟨.other, 1, 8, [.v .nilFunc], []⟩),
  (128, ⟨.other, 1, 8, [.v .nilFunc], []⟩),
  (129, ⟨.other, 1, 8, [.v .nilFunc], []⟩),
  (130, ⟨.other, 1, 8, [.v .nilFunc], []⟩),
  (131, ⟨.other, 1, 8, [.v .nilFunc], []⟩),
  (132, ⟨.other, 1, 8, [.v .nilFunc], []⟩),
  (133, ⟨.other, 1, 8, [.v .nilFunc], []⟩),
  (134, ⟨.array 8 25, 24, 192, [.v (.int .i64 0), .v (.int .i64 0), .v (.int .i64 0), .v (.int .i64 0), .v (.int .i64 0), .v (.int .i64 0), .v (.int .i64 0), .v (.int .i64 0), .v (.int .i64 0), .v (.int .i64 0), .v (.int .i64 0), .v (.int .i64 0), .v (.int .i64 0), .v (.int .i64 0), .v (.int .i64 0), .v (.int .i64 0), .v (.int .i64 0), .v (.int .i64 0), .v (.int .i64 0), .v (.int .i64 0), .v (.int .i64 0), .v (.int .i64 0), .v (.int .i64 0), .v (.int .i64 0)], [.int .i64, .int .i64, .int .i64, .int .i64, .int .i64, .int .i64, .int .i64, .int .i64, .int .i64, .int .i64, .int .i64, .int .i64, .int .i64, .int .i64, .int .i64, .int .i64, .int .i64, .int .i64, .int .i64, .int .i64, .int .i64, .int .i64, .int .i64, .int .i64]⟩),
  (135, ⟨.struct [(0, 1, 9), (1, 1, 3), (2, 1, 9), (3, 24, 134), (27, 3, 25), (30, 1, 4)], 31, 264, [.v (.string ByteArray.empty), .v (.int .i64 0), .v (.string ByteArray.empty), .v (.int .i64 0), .v (.int .i64 0), .v (.int .i64 0), .v (.int .i64 0), .v (.int .i64 0), .v (.int .i64 0), .v (.int .i64 0), .v (.int .i64 0), .v (.int .i64 0), .v (.int .i64 0), .v (.int .i64 0), .v (.int .i64 0), .v (.int .i64 0), .v (.int .i64 0), .v (.int .i64 0), .v (.int .i64 0), .v (.int .i64 0), .v (.int .i64 0), .v (.int .i64 0), .v (.int .i64 0), .v (.int .i64 0), .v (.int .i64 0), .v (.int .i64 0), .v (.int .i64 0), .v (.int .i64 0), .v (.int .i64 0), .v (.int .i64 0), .v (.bool false)], [.str, .int .i64, .str, .int .i64, .int .i64, .int .i64, .int .i64, .int .i64, .int .i64, .int .i64, .int .i64, .int .i64, .int .i64, .int .i64, .int .i64, .int .i64, .int .i64, .int .i64, .int .i64, .int .i64, .int .i64, .int .i64, .int .i64, .int .i64, .int .i64, .int .i64, .int .i64, .int .i64, .int .i64, .int .i64, .bool]⟩),
  (136, ⟨.struct [(0, 1, 9), (1, 1, 3), (2, 1, 9), (3, 24, 134), (27, 3, 25), (30, 1, 4)], 31, 264, [.v (.string ByteArray.empty), .v (.int .i64 0), .v (.string ByteArray.empty), .v (.int .i64 0), .v (.int .i64 0), .v (.int .i64 0), .v (.int .i64 0), .v (.int .i64 0), .v (.int .i64 0), .v (.int .i64 0), .v (.int .i64 0), .v (.int .i64 0), .v (.int .i64 0), .v (.int .i64 0), .v (.int .i64 0), .v (.int .i64 0), .v (.int .i64 0), .v (.int .i64 0), .v (.int .i64 0), .v (.int .i64 0), .v (.int .i64 0), .v (.int .i64 0), .v (.int .i64 0), .v (.int .i64 0), .v (.int .i64 0), .v (.int .i64 0), .v (.int .i64 0), .v (.int .i64 0), .v (.int .i64 0), .v (.int .i64 0), .v (.bool false)], [.str, .int .i64, .str, .int .i64, .int .i64, .int .i64, .int .i64, .int .i64, .int .i64, .int .i64, .int .i64, .int .i64, .int .i64, .int .i64, .int .i64, .int .i64, .int .i64, .int .i64, .int .i64, .int .i64, .int .i64, .int .i64, .int .i64, .int .i64, .int .i64, .int .i64, .int .i64, .int .i64, .int .i64, .int .i64, .bool]⟩),
  (137, ⟨.other, 1, 8, [.v .nilFunc], []⟩),
  (138, ⟨.other, 1, 8, [.v .nilFunc], []⟩),
  (139, ⟨.other, 1, 8, [.v .nilFunc], []⟩),
  (140, ⟨.other, 1, 8, [.v .nilFunc], []⟩),
  (141, ⟨.other, 1, 8, [.v .nilFunc], []⟩),
  (142, ⟨.other, 1, 8, [.v .nilFunc], []⟩),
  (143, ⟨.other, 1, 8, [.v .nilFunc], []⟩),
  (144, ⟨.other, 1, 8, [.v .nilFunc], []⟩),
  (145, ⟨.struct [(0, 1, 9), (1, 1, 3), (2, 1, 9), (3, 8, 105)], 11, 168, [.v (.string ByteArray.empty), .v (.int .i64 0), .v (.string ByteArray.empty), .v (.string ByteArray.empty), .v (.string ByteArray.empty), .v (.string ByteArray.empty), .v (.string ByteArray.empty), .v (.string ByteArray.empty), .v (.string ByteArray.empty), .v (.string ByteArray.empty), .v (.string ByteArray.empty)], [.str, .int .i64, .str, .str, .str, .str, .str, .str, .str, .str, .str]⟩),
  (146, ⟨.other, 1, 8, [.v .nilFunc], []⟩),
  (147, ⟨.other, 1, 8, [.v .nilFunc], []⟩),
  (148, ⟨.other, 1, 8, [.v .nilFunc], []⟩),
  (149, ⟨.other, 1, 8, [.v .nilFunc], []⟩),
  (150, ⟨.other, 1, 8, [.v .nilFunc], []⟩),
  (151, ⟨.other, 1, 8, [.v .nilFunc], []⟩),
  (152, ⟨.struct [(0, 1, 3), (1, 1, 3), (2, 1, 9)], 3, 32, [.v (.int .i64 0), .v (.int .i64 0), .v (.string ByteArray.empty)], [.int .i64, .int .i64, .str]⟩),
  (153, ⟨.other, 1, 8, [.v .nilFunc], []⟩),
  (154, ⟨.other, 1, 8, [.v .nilFunc], []⟩),
  (155, ⟨.other, 1, 8, [.v .nilFunc], []⟩),
  (156, ⟨.other, 1, 8, [.v .nilFunc], []⟩),
  (157, ⟨.other, 1, 8, [.v .nilFunc], []⟩),
  (158, ⟨.other, 1, 8, [.v .nilFunc], []⟩),
  (159, ⟨.other, 1, 8, [.v .nilFunc], []⟩),
  (160, ⟨.array 8 23, 24, 192, [.v (.int .i64 0), .v (.int .i64 0), .v (.int .i64 0), .v (.int .i64 0), .v (.int .i64 0), .v (.int .i64 0), .v (.int .i64 0), .v (.int .i64 0), .v (.int .i64 0), .v (.int .i64 0), .v (.int .i64 0), .v (.int .i64 0), .v (.int .i64 0), .v (.int .i64 0), .v (.int .i64 0), .v (.int .i64 0), .v (.int .i64 0), .v (.int .i64 0), .v (.int .i64 0), .v (.int .i64 0), .v (.int .i64 0), .v (.int .i64 0), .v (.int .i64 0), .v (.int .i64 0)], [.int .i64, .int .i64, .int .i64, .int .i64, .int .i64, .int .i64, .int .i64, .int .i64, .int .i64, .int .i64, .int .i64, .int .i64, .int .i64, .int .i64, .int .i64, .int .i64, .int .i64, .int .i64, .int .i64, .int .i64, .int .i64, .int .i64, .int .i64, .int .i64]⟩),
  (161, ⟨.struct [(0, 1, 9), (1, 1, 3), (2, 1, 9), (3, 24, 160), (27, 3, 23), (30, 1, 4)], 31, 264, [.v (.string ByteArray.empty), .v (.int .i64 0), .v (.string ByteArray.empty), .v (.int .i64 0), .v (.int .i64 0), .v (.int .i64 0), .v (.int .i64 0), .v (.int .i64 0), .v (.int .i64 0), .v (.int .i64 0), .v (.int .i64 0), .v (.int .i64 0), .v (.int .i64 0), .v (.int .i64 0), .v (.int .i64 0), .v (.int .i64 0), .v (.int .i64 0), .v (.int .i64 0), .v (.int .i64 0), .v (.int .i64 0), .v (.int .i64 0), .v (.int .i64 0), .v (.int .i64 0), .v (.int .i64 0), .v (.int .i64 0), .v (.int .i64 0), .v (.int .i64 0), .v (.int .i64 0), .v (.int .i64 0), .v (.int .i64 0), .v (.bool false)], [.str, .int .i64, .str, .int .i64, .int .i64, .int .i64, .int .i64, .int .i64, .int .i64, .int .i64, .int .i64, .int .i64, .int .i64, .int .i64, .int .i64, .int .i64, .int .i64, .int .i64, .int .i64, .int .i64, .int .i64, .int .i64, .int .i64, .int .i64, .int .i64, .int .i64, .int .i64, .int .i64, .int .i64, .int .i64, .bool]⟩),
  (162, ⟨.struct [(0, 1, 9), (1, 1, 3), (2, 1, 9), (3, 24, 160), (27, 3, 23), (30, 1, 4)], 31, 264, [.v (.string ByteArray.empty), .v (.int .i64 0), .v (.string ByteArray.empty), .v (.int .i64 0), .v (.int .i64 0), .v (.int .i64 0), .v (.int .i64 0), .v (.int .i64 0), .v (.int .i64 0), .v (.int .i64 0), .v (.int .i64 0), .v (.int .i64 0), .v (.int .i64 0), .v (.int .i64 0), .v (.int .i64 0), .v (.int .i64 0), .v (.int .i64 0), .v (.int .i64 0), .v (.int .i64 0), .v (.int .i64 0), .v (.int .i64 0), .v (.int .i64 0), .v (.int .i64 0), .v (.int .i64 0), .v (.int .i64 0), .v (.int .i64 0), .v (.int .i64 0), .v (.int .i64 0), .v (.int .i64 0), .v (.int .i64 0), .v (.bool false)], [.str, .int .i64, .str, .int .i64, .int .i64, .int .i64, .int .i64, .int .i64, .int .i64, .int .i64, .int .i64, .int .i64, .int .i64, .int .i64, .int .i64, .int .i64, .int .i64, .int .i64, .int .i64, .int .i64, .int .i64, .int .i64, .int .i64, .int .i64, .int .i64, .int .i64, .int .i64, .int .i64, .int .i64, .int .i64, .bool]⟩),
  (163, ⟨.other, 1, 8, [.v .nilFunc], []⟩),
  (164, ⟨.other, 1, 8, [.v .nilFunc], []⟩),
  (165, ⟨.other, 1, 8, [.v .nilFunc], []⟩),
  (166, ⟨.int .u64, 1, 8, [.v (.int .u64 0)], [.int .u64]⟩),
  (167, ⟨.other, 1, 8, [.v .nilFunc], []⟩),
  (168, ⟨.other, 1, 8, [.v .nilFunc], []⟩),
  (169, ⟨.other, 1, 8, [.v .nilFunc], []⟩),
  (170, ⟨.other, 1, 8, [.v .nilFunc], []⟩),
  (171, ⟨.other, 1, 8, [.v .nilFunc], []⟩),
  (172, ⟨.other, 1, 8, [.v .nilFunc], []⟩),
  (173, ⟨.other, 1, 8, [.v .nilFunc], []⟩),
  (174, ⟨.other, 1, 8, [.v .nilFunc], []⟩),
  (175, ⟨.struct [(0, 1, 17), (1, 1, 17), (2, 1, 17), (3, 1, 9)], 4, 40, [.v (.pointer none), .v (.pointer none), .v (.pointer none), .v (.string ByteArray.empty)], []⟩),
  (176, ⟨.struct [(0, 1, 17), (1, 1, 17), (2, 1, 17), (3, 1, 9)], 4, 40, [.v (.pointer none), .v (.pointer none), .v (.pointer none), .v (.string ByteArray.empty)], []⟩),
  (177, ⟨.array 0 16, 0, 0, [], []⟩),
  (178, ⟨.struct [(0, 0, 177)], 0, 0, [], []⟩),
  (179, ⟨.struct [(0, 0, 177)], 0, 0, [], []⟩),
  (180, ⟨.other, 1, 8, [.v .nilFunc], []⟩),
  (181, ⟨.int .u32, 1, 4, [.v (.int .u32 0)], [.int .u32]⟩),
  (182, ⟨.int .u8, 1, 1, [.v (.int .u8 0)], [.int .u8]⟩),
  (183, ⟨.int .u8, 1, 1, [.v (.int .u8 0)], [.int .u8]⟩),
  (184, ⟨.other, 1, 8, [.v .nilFunc], []⟩),
  (185, ⟨.other, 1, 8, [.v (.pointer none)], []⟩),
  (186, ⟨.int .i32, 1, 4, [.v (.int .i32 0)], [.int .i32]⟩),
  (187, ⟨.int .i32, 1, 4, [.v (.int .i32 0)], [.int .i32]⟩),
  (188, ⟨.struct [(0, 1, 12), (1, 1, 12), (2, 1, 181), (3, 1, 182), (4, 1, 5), (5, 1, 5), (6, 1, 183), (7, 1, 184), (8, 1, 185), (9, 1, 186), (10, 1, 187)], 11, 48, [.v (.int .u64 0), .v (.int .u64 0), .v (.int .u32 0), .v (.int .u8 0), .v (.int .u8 0), .v (.int .u8 0), .v (.int .u8 0), .v .nilFunc, .v (.pointer none), .v (.int .i32 0), .v (.int .i32 0)], []⟩),
  (189, ⟨.struct [(0, 1, 12), (1, 1, 12), (2, 1, 181), (3, 1, 182), (4, 1, 5), (5, 1, 5), (6, 1, 183), (7, 1, 184), (8, 1, 185), (9, 1, 186), (10, 1, 187)], 11, 48, [.v (.int .u64 0), .v (.int .u64 0), .v (.int .u32 0), .v (.int .u8 0), .v (.int .u8 0), .v (.int .u8 0), .v (.int .u8 0), .v .nilFunc, .v (.pointer none), .v (.int .i32 0), .v (.int .i32 0)], []⟩),
  (190, ⟨.other, 1, 8, [.v .nilFunc], []⟩)]
theorem row1 : RowOK Try.prog 1 ⟨.other, 1, 8, [.v .nilFunc], []⟩ := ⟨by kernel_rfl, by kernel_rfl, by kernel_rfl, by kernel_rfl, .inl (by kernel_rfl), by kernel_rfl⟩
theorem row2 : RowOK Try.prog 2 ⟨.int .i64, 1, 8, [.v (.int .i64 0)], [.int .i64]⟩ := ⟨by kernel_rfl, by kernel_rfl, by kernel_rfl, by kernel_rfl, .inr (by kernel_rfl), by kernel_rfl⟩
theorem row3 : RowOK Try.prog 3 ⟨.int .i64, 1, 8, [.v (.int .i64 0)], [.int .i64]⟩ := ⟨by kernel_rfl, by kernel_rfl, by kernel_rfl, by kernel_rfl, .inr (by kernel_rfl), by kernel_rfl⟩
theorem row4 : RowOK Try.prog 4 ⟨.bool, 1, 1, [.v (.bool false)], [.bool]⟩ := ⟨by kernel_rfl, by kernel_rfl, by kernel_rfl, by kernel_rfl, .inr (by kernel_rfl), by kernel_rfl⟩
theorem row5 : RowOK Try.prog 5 ⟨.int .u8, 1, 1, [.v (.int .u8 0)], [.int .u8]⟩ := ⟨by kernel_rfl, by kernel_rfl, by kernel_rfl, by kernel_rfl, .inr (by kernel_rfl), by kernel_rfl⟩
theorem row6 : RowOK Try.prog 6 ⟨.int .u8, 1, 1, [.v (.int .u8 0)], [.int .u8]⟩ := ⟨by kernel_rfl, by kernel_rfl, by kernel_rfl, by kernel_rfl, .inr (by kernel_rfl), by kernel_rfl⟩
theorem row7 : RowOK Try.prog 7 ⟨.struct [(0, 1, 2), (1, 1, 3), (2, 1, 4), (3, 1, 6)], 4, 24, [.v (.int .i64 0), .v (.int .i64 0), .v (.bool false), .v (.int .u8 0)], [.int .i64, .int .i64, .bool, .int .u8]⟩ := ⟨by kernel_rfl, by kernel_rfl, by kernel_rfl, by kernel_rfl, .inr (by kernel_rfl), by kernel_rfl⟩
theorem row8 : RowOK Try.prog 8 ⟨.struct [(0, 1, 2), (1, 1, 3), (2, 1, 4), (3, 1, 6)], 4, 24, [.v (.int .i64 0), .v (.int .i64 0), .v (.bool false), .v (.int .u8 0)], [.int .i64, .int .i64, .bool, .int .u8]⟩ := ⟨by kernel_rfl, by kernel_rfl, by kernel_rfl, by kernel_rfl, .inr (by kernel_rfl), by kernel_rfl⟩
theorem row9 : RowOK Try.prog 9 ⟨.str, 1, 16, [.v (.string ByteArray.empty)], [.str]⟩ := ⟨by kernel_rfl, by kernel_rfl, by kernel_rfl, by kernel_rfl, .inr (by kernel_rfl), by kernel_rfl⟩
theorem row10 : RowOK Try.prog 10 ⟨.str, 1, 16, [.v (.string ByteArray.empty)], [.str]⟩ := ⟨by kernel_rfl, by kernel_rfl, by kernel_rfl, by kernel_rfl, .inr (by kernel_rfl), by kernel_rfl⟩
theorem row11 : RowOK Try.prog 11 ⟨.str, 1, 16, [.v (.string ByteArray.empty)], [.str]⟩ := ⟨by kernel_rfl, by kernel_rfl, by kernel_rfl, by kernel_rfl, .inr (by kernel_rfl), by kernel_rfl⟩
theorem row12 : RowOK Try.prog 12 ⟨.int .u64, 1, 8, [.v (.int .u64 0)], [.int .u64]⟩ := ⟨by kernel_rfl, by kernel_rfl, by kernel_rfl, by kernel_rfl, .inr (by kernel_rfl), by kernel_rfl⟩
theorem row13 : RowOK Try.prog 13 ⟨.struct [(0, 1, 9), (1, 1, 12)], 2, 24, [.v (.string ByteArray.empty), .v (.int .u64 0)], [.str, .int .u64]⟩ := ⟨by kernel_rfl, by kernel_rfl, by kernel_rfl, by kernel_rfl, .inr (by kernel_rfl), by kernel_rfl⟩
theorem row14 : RowOK Try.prog 14 ⟨.struct [(0, 1, 9), (1, 1, 12)], 2, 24, [.v (.string ByteArray.empty), .v (.int .u64 0)], [.str, .int .u64]⟩ := ⟨by kernel_rfl, by kernel_rfl, by kernel_rfl, by kernel_rfl, .inr (by kernel_rfl), by kernel_rfl⟩
theorem row15 : RowOK Try.prog 15 ⟨.other, 1, 8, [.v (.pointer none)], []⟩ := ⟨by kernel_rfl, by kernel_rfl, by kernel_rfl, by kernel_rfl, .inl (by kernel_rfl), by kernel_rfl⟩
theorem row16 : RowOK Try.prog 16 ⟨.other, 1, 8, [.v (.pointer none)], []⟩ := ⟨by kernel_rfl, by kernel_rfl, by kernel_rfl, by kernel_rfl, .inl (by kernel_rfl), by kernel_rfl⟩
theorem row17 : RowOK Try.prog 17 ⟨.other, 1, 8, [.v (.pointer none)], []⟩ := ⟨by kernel_rfl, by kernel_rfl, by kernel_rfl, by kernel_rfl, .inl (by kernel_rfl), by kernel_rfl⟩
theorem row18 : RowOK Try.prog 18 ⟨.struct [(0, 1, 17)], 1, 8, [.v (.pointer none)], []⟩ := ⟨by kernel_rfl, by kernel_rfl, by kernel_rfl, by kernel_rfl, .inl (by kernel_rfl), by kernel_rfl⟩
theorem row19 : RowOK Try.prog 19 ⟨.struct [(0, 1, 17)], 1, 8, [.v (.pointer none)], []⟩ := ⟨by kernel_rfl, by kernel_rfl, by kernel_rfl, by kernel_rfl, .inl (by kernel_rfl), by kernel_rfl⟩
theorem row20 : RowOK Try.prog 20 ⟨.iface, 1, 16, [.v .nilIface], []⟩ := ⟨by kernel_rfl, by kernel_rfl, by kernel_rfl, by kernel_rfl, .inl (by kernel_rfl), by kernel_rfl⟩
theorem row21 : RowOK Try.prog 21 ⟨.int .i32, 1, 4, [.v (.int .i32 0)], [.int .i32]⟩ := ⟨by kernel_rfl, by kernel_rfl, by kernel_rfl, by kernel_rfl, .inr (by kernel_rfl), by kernel_rfl⟩
theorem row22 : RowOK Try.prog 22 ⟨.struct [(0, 1, 3), (1, 1, 3), (2, 1, 3)], 3, 24, [.v (.int .i64 0), .v (.int .i64 0), .v (.int .i64 0)], [.int .i64, .int .i64, .int .i64]⟩ := ⟨by kernel_rfl, by kernel_rfl, by kernel_rfl, by kernel_rfl, .inr (by kernel_rfl), by kernel_rfl⟩
theorem row23 : RowOK Try.prog 23 ⟨.struct [(0, 1, 3), (1, 1, 3), (2, 1, 3)], 3, 24, [.v (.int .i64 0), .v (.int .i64 0), .v (.int .i64 0)], [.int .i64, .int .i64, .int .i64]⟩ := ⟨by kernel_rfl, by kernel_rfl, by kernel_rfl, by kernel_rfl, .inr (by kernel_rfl), by kernel_rfl⟩
theorem row24 : RowOK Try.prog 24 ⟨.other, 1, 8, [.v .nilFunc], []⟩ := ⟨by kernel_rfl, by kernel_rfl, by kernel_rfl, by kernel_rfl, .inl (by kernel_rfl), by kernel_rfl⟩
theorem row25 : RowOK Try.prog 25 ⟨.struct [(0, 1, 3), (1, 1, 3), (2, 1, 3)], 3, 24, [.v (.int .i64 0), .v (.int .i64 0), .v (.int .i64 0)], [.int .i64, .int .i64, .int .i64]⟩ := ⟨by kernel_rfl, by kernel_rfl, by kernel_rfl, by kernel_rfl, .inr (by kernel_rfl), by kernel_rfl⟩
theorem row26 : RowOK Try.prog 26 ⟨.other, 1, 8, [.v .nilFunc], []⟩ := ⟨by kernel_rfl, by kernel_rfl, by kernel_rfl, by kernel_rfl, .inl (by kernel_rfl), by kernel_rfl⟩
theorem row27 : RowOK Try.prog 27 ⟨.other, 1, 8, [.v .nilFunc], []⟩ := ⟨by kernel_rfl, by kernel_rfl, by kernel_rfl, by kernel_rfl, .inl (by kernel_rfl), by kernel_rfl⟩
theorem row29 : RowOK Try.prog 29 ⟨.other, 1, 8, [.v .nilFunc], []⟩ := ⟨by kernel_rfl, by kernel_rfl, by kernel_rfl, by kernel_rfl, .inl (by kernel_rfl), by kernel_rfl⟩
theorem row30 : RowOK Try.prog 30 ⟨.other, 1, 8, [.v .nilFunc], []⟩ := ⟨by kernel_rfl, by kernel_rfl, by kernel_rfl, by kernel_rfl, .inl (by kernel_rfl), by kernel_rfl⟩
theorem row31 : RowOK Try.prog 31 ⟨.slice 100, 1, 24, [.slc [.int .i64, .int .i64, .int .i64]], []⟩ := ⟨by kernel_rfl, by kernel_rfl, by kernel_rfl, by kernel_rfl, .inl (by kernel_rfl), by kernel_rfl⟩
theorem row32 : RowOK Try.prog 32 ⟨.other, 1, 8, [.v .nilFunc], []⟩ := ⟨by kernel_rfl, by kernel_rfl, by kernel_rfl, by kernel_rfl, .inl (by kernel_rfl), by kernel_rfl⟩
theorem row33 : RowOK Try.prog 33 ⟨.other, 1, 8, [.v .nilFunc], []⟩ := ⟨by kernel_rfl, by kernel_rfl, by kernel_rfl, by kernel_rfl, .inl (by kernel_rfl), by kernel_rfl⟩
theorem row34 : RowOK Try.prog 34 ⟨.slice 98, 1, 24, [.slc [.int .i64, .int .i64, .int .i64]], []⟩ := ⟨by kernel_rfl, by kernel_rfl, by kernel_rfl, by kernel_rfl, .inl (by kernel_rfl), by kernel_rfl⟩
theorem row35 : RowOK Try.prog 35 ⟨.other, 1, 8, [.v .nilFunc], []⟩ := ⟨by kernel_rfl, by kernel_rfl, by kernel_rfl, by kernel_rfl, .inl (by kernel_rfl), by kernel_rfl⟩
theorem row36 : RowOK Try.prog 36 ⟨.other, 1, 8, [.v .nilFunc], []⟩ := ⟨by kernel_rfl, by kernel_rfl, by kernel_rfl, by kernel_rfl, .inl (by kernel_rfl), by kernel_rfl⟩
theorem row37 : RowOK Try.prog 37 ⟨.other, 1, 8, [.v .nilFunc], []⟩ := ⟨by kernel_rfl, by kernel_rfl, by kernel_rfl, by kernel_rfl, .inl (by kernel_rfl), by kernel_rfl⟩
theorem row38 : RowOK Try.prog 38 ⟨.other, 1, 8, [.v .nilFunc], []⟩ := ⟨by kernel_rfl, by kernel_rfl, by kernel_rfl, by kernel_rfl, .inl (by kernel_rfl), by kernel_rfl⟩
theorem row39 : RowOK Try.prog 39 ⟨.other, 1, 8, [.v .nilFunc], []⟩ := ⟨by kernel_rfl, by kernel_rfl, by kernel_rfl, by kernel_rfl, .inl (by kernel_rfl), by kernel_rfl⟩
theorem row40 : RowOK Try.prog 40 ⟨.slice 145, 1, 24, [.slc [.str, .int .i64, .str, .str, .str, .str, .str, .str, .str, .str, .str]], []⟩ := ⟨by kernel_rfl, by kernel_rfl, by kernel_rfl, by kernel_rfl, .inl (by kernel_rfl), by kernel_rfl⟩
theorem row41 : RowOK Try.prog 41 ⟨.struct [(0, 1, 40)], 1, 24, [.slc [.str, .int .i64, .str, .str, .str, .str, .str, .str, .str, .str, .str]], []⟩ := ⟨by kernel_rfl, by kernel_rfl, by kernel_rfl, by kernel_rfl, .inl (by kernel_rfl), by kernel_rfl⟩
theorem row42 : RowOK Try.prog 42 ⟨.struct [(0, 1, 40)], 1, 24, [.slc [.str, .int .i64, .str, .str, .str, .str, .str, .str, .str, .str, .str]], []⟩ := ⟨by kernel_rfl, by kernel_rfl, by kernel_rfl, by kernel_rfl, .inl (by kernel_rfl), by kernel_rfl⟩
theorem row43 : RowOK Try.prog 43 ⟨.other, 1, 8, [.v .nilFunc], []⟩ := ⟨by kernel_rfl, by kernel_rfl, by kernel_rfl, by kernel_rfl, .inl (by kernel_rfl), by kernel_rfl⟩
theorem row44 : RowOK Try.prog 44 ⟨.other, 1, 8, [.v .nilFunc], []⟩ := ⟨by kernel_rfl, by kernel_rfl, by kernel_rfl, by kernel_rfl, .inl (by kernel_rfl), by kernel_rfl⟩
theorem row45 : RowOK Try.prog 45 ⟨.slice 107, 1, 24, [.slc [.str, .int .i64, .str, .str, .str, .str, .str, .str, .str, .str, .str]], []⟩ := ⟨by kernel_rfl, by kernel_rfl, by kernel_rfl, by kernel_rfl, .inl (by kernel_rfl), by kernel_rfl⟩
theorem row46 : RowOK Try.prog 46 ⟨.struct [(0, 1, 45)], 1, 24, [.slc [.str, .int .i64, .str, .str, .str, .str, .str, .str, .str, .str, .str]], []⟩ := ⟨by kernel_rfl, by kernel_rfl, by kernel_rfl, by kernel_rfl, .inl (by kernel_rfl), by kernel_rfl⟩
theorem row47 : RowOK Try.prog 47 ⟨.struct [(0, 1, 45)], 1, 24, [.slc [.str, .int .i64, .str, .str, .str, .str, .str, .str, .str, .str, .str]], []⟩ := ⟨by kernel_rfl, by kernel_rfl, by kernel_rfl, by kernel_rfl, .inl (by kernel_rfl), by kernel_rfl⟩
theorem row48 : RowOK Try.prog 48 ⟨.other, 1, 8, [.v .nilFunc], []⟩ := ⟨by kernel_rfl, by kernel_rfl, by kernel_rfl, by kernel_rfl, .inl (by kernel_rfl), by kernel_rfl⟩
theorem row49 : RowOK Try.prog 49 ⟨.other, 1, 8, [.v .nilFunc], []⟩ := ⟨by kernel_rfl, by kernel_rfl, by kernel_rfl, by kernel_rfl, .inl (by kernel_rfl), by kernel_rfl⟩
theorem row50 : RowOK Try.prog 50 ⟨.slice 9, 1, 24, [.slc [.str]], []⟩ := ⟨by kernel_rfl, by kernel_rfl, by kernel_rfl, by kernel_rfl, .inl (by kernel_rfl), by kernel_rfl⟩
theorem row51 : RowOK Try.prog 51 ⟨.array 2 50, 2, 48, [.slc [.str], .slc [.str]], []⟩ := ⟨by kernel_rfl, by kernel_rfl, by kernel_rfl, by kernel_rfl, .inl (by kernel_rfl), by kernel_rfl⟩
theorem row52 : RowOK Try.prog 52 ⟨.slice 117, 1, 24, [.slc [.int .i64, .int .i64, .str]], []⟩ := ⟨by kernel_rfl, by kernel_rfl, by kernel_rfl, by kernel_rfl, .inl (by kernel_rfl), by kernel_rfl⟩
theorem row53 : RowOK Try.prog 53 ⟨.struct [(0, 2, 51), (2, 1, 52)], 3, 72, [.slc [.str], .slc [.str], .slc [.int .i64, .int .i64, .str]], []⟩ := ⟨by kernel_rfl, by kernel_rfl, by kernel_rfl, by kernel_rfl, .inl (by kernel_rfl), by kernel_rfl⟩
theorem row54 : RowOK Try.prog 54 ⟨.struct [(0, 2, 51), (2, 1, 52)], 3, 72, [.slc [.str], .slc [.str], .slc [.int .i64, .int .i64, .str]], []⟩ := ⟨by kernel_rfl, by kernel_rfl, by kernel_rfl, by kernel_rfl, .inl (by kernel_rfl), by kernel_rfl⟩
theorem row55 : RowOK Try.prog 55 ⟨.other, 1, 8, [.v .nilFunc], []⟩ := ⟨by kernel_rfl, by kernel_rfl, by kernel_rfl, by kernel_rfl, .inl (by kernel_rfl), by kernel_rfl⟩
theorem row56 : RowOK Try.prog 56 ⟨.other, 1, 8, [.v .nilFunc], []⟩ := ⟨by kernel_rfl, by kernel_rfl, by kernel_rfl, by kernel_rfl, .inl (by kernel_rfl), by kernel_rfl⟩
theorem row57 : RowOK Try.prog 57 ⟨.other, 1, 8, [.v .nilFunc], []⟩ := ⟨by kernel_rfl, by kernel_rfl, by kernel_rfl, by kernel_rfl, .inl (by kernel_rfl), by kernel_rfl⟩
theorem row58 : RowOK Try.prog 58 ⟨.other, 1, 8, [.v .nilFunc], []⟩ := ⟨by kernel_rfl, by kernel_rfl, by kernel_rfl, by kernel_rfl, .inl (by kernel_rfl), by kernel_rfl⟩
theorem row59 : RowOK Try.prog 59 ⟨.slice 152, 1, 24, [.slc [.int .i64, .int .i64, .str]], []⟩ := ⟨by kernel_rfl, by kernel_rfl, by kernel_rfl, by kernel_rfl, .inl (by kernel_rfl), by kernel_rfl⟩
theorem row60 : RowOK Try.prog 60 ⟨.struct [(0, 2, 51), (2, 1, 59)], 3, 72, [.slc [.str], .slc [.str], .slc [.int .i64, .int .i64, .str]], []⟩ := ⟨by kernel_rfl, by kernel_rfl, by kernel_rfl, by kernel_rfl, .inl (by kernel_rfl), by kernel_rfl⟩
theorem row61 : RowOK Try.prog 61 ⟨.struct [(0, 2, 51), (2, 1, 59)], 3, 72, [.slc [.str], .slc [.str], .slc [.int .i64, .int .i64, .str]], []⟩ := ⟨by kernel_rfl, by kernel_rfl, by kernel_rfl, by kernel_rfl, .inl (by kernel_rfl), by kernel_rfl⟩
theorem row62 : RowOK Try.prog 62 ⟨.other, 1, 8, [.v .nilFunc], []⟩ := ⟨by kernel_rfl, by kernel_rfl, by kernel_rfl, by kernel_rfl, .inl (by kernel_rfl), by kernel_rfl⟩
theorem row63 : RowOK Try.prog 63 ⟨.other, 1, 8, [.v .nilFunc], []⟩ := ⟨by kernel_rfl, by kernel_rfl, by kernel_rfl, by kernel_rfl, .inl (by kernel_rfl), by kernel_rfl⟩
theorem row64 : RowOK Try.prog 64 ⟨.other, 1, 8, [.v .nilFunc], []⟩ := ⟨by kernel_rfl, by kernel_rfl, by kernel_rfl, by kernel_rfl, .inl (by kernel_rfl), by kernel_rfl⟩
theorem row65 : RowOK Try.prog 65 ⟨.other, 1, 8, [.v .nilFunc], []⟩ := ⟨by kernel_rfl, by kernel_rfl, by kernel_rfl, by kernel_rfl, .inl (by kernel_rfl), by kernel_rfl⟩
theorem row66 : RowOK Try.prog 66 ⟨.other, 1, 8, [.v .nilFunc], []⟩ := ⟨by kernel_rfl, by kernel_rfl, by kernel_rfl, by kernel_rfl, .inl (by kernel_rfl), by kernel_rfl⟩
theorem row68 : RowOK Try.prog 68 ⟨.other, 1, 8, [.v .nilFunc], []⟩ := ⟨by kernel_rfl, by kernel_rfl, by kernel_rfl, by kernel_rfl, .inl (by kernel_rfl), by kernel_rfl⟩
theorem row69 : RowOK Try.prog 69 ⟨.other, 1, 8, [.v .nilFunc], []⟩ := ⟨by kernel_rfl, by kernel_rfl, by kernel_rfl, by kernel_rfl, .inl (by kernel_rfl), by kernel_rfl⟩
theorem row70 : RowOK Try.prog 70 ⟨.other, 1, 8, [.v .nilFunc], []⟩ := ⟨by kernel_rfl, by kernel_rfl, by kernel_rfl, by kernel_rfl, .inl (by kernel_rfl), by kernel_rfl⟩
theorem row71 : RowOK Try.prog 71 ⟨.other, 1, 8, [.v .nilFunc], []⟩ := ⟨by kernel_rfl, by kernel_rfl, by kernel_rfl, by kernel_rfl, .inl (by kernel_rfl), by kernel_rfl⟩
theorem row72 : RowOK Try.prog 72 ⟨.other, 1, 8, [.v .nilFunc], []⟩ := ⟨by kernel_rfl, by kernel_rfl, by kernel_rfl, by kernel_rfl, .inl (by kernel_rfl), by kernel_rfl⟩
theorem row74 : RowOK Try.prog 74 ⟨.other, 1, 8, [.v .nilFunc], []⟩ := ⟨by kernel_rfl, by kernel_rfl, by kernel_rfl, by kernel_rfl, .inl (by kernel_rfl), by kernel_rfl⟩
theorem row75 : RowOK Try.prog 75 ⟨.other, 1, 8, [.v .nilFunc], []⟩ := ⟨by kernel_rfl, by kernel_rfl, by kernel_rfl, by kernel_rfl, .inl (by kernel_rfl), by kernel_rfl⟩
theorem row76 : RowOK Try.prog 76 ⟨.other, 1, 8, [.v .nilFunc], []⟩ := ⟨by kernel_rfl, by kernel_rfl, by kernel_rfl, by kernel_rfl, .inl (by kernel_rfl), by kernel_rfl⟩
theorem row77 : RowOK Try.prog 77 ⟨.other, 1, 8, [.v .nilFunc], []⟩ := ⟨by kernel_rfl, by kernel_rfl, by kernel_rfl, by kernel_rfl, .inl (by kernel_rfl), by kernel_rfl⟩
theorem row78 : RowOK Try.prog 78 ⟨.slice 162, 1, 24, [.slc [.str, .int .i64, .str, .int .i64, .int .i64, .int .i64, .int .i64, .int .i64, .int .i64, .int .i64, .int .i64, .int .i64, .int .i64, .int .i64, .int .i64, .int .i64, .int .i64, .int .i64, .int .i64, .int .i64, .int .i64, .int .i64, .int .i64, .int .i64, .int .i64, .int .i64, .int .i64, .int .i64, .int .i64, .int .i64, .bool]], []⟩ := ⟨by kernel_rfl, by kernel_rfl, by kernel_rfl, by kernel_rfl, .inl (by kernel_rfl), by kernel_rfl⟩
theorem row79 : RowOK Try.prog 79 ⟨.slice 23, 1, 24, [.slc [.int .i64, .int .i64, .int .i64]], []⟩ := ⟨by kernel_rfl, by kernel_rfl, by kernel_rfl, by kernel_rfl, .inl (by kernel_rfl), by kernel_rfl⟩
theorem row80 : RowOK Try.prog 80 ⟨.slice 3, 1, 24, [.slc [.int .i64]], []⟩ := ⟨by kernel_rfl, by kernel_rfl, by kernel_rfl, by kernel_rfl, .inl (by kernel_rfl), by kernel_rfl⟩
theorem row81 : RowOK Try.prog 81 ⟨.struct [(0, 1, 3), (1, 1, 78), (2, 1, 31), (3, 1, 79), (4, 1, 4), (5, 1, 80), (6, 1, 3)], 7, 120, [.v (.int .i64 0), .slc [.str, .int .i64, .str, .int .i64, .int .i64, .int .i64, .int .i64, .int .i64, .int .i64, .int .i64, .int .i64, .int .i64, .int .i64, .int .i64, .int .i64, .int .i64, .int .i64, .int .i64, .int .i64, .int .i64, .int .i64, .int .i64, .int .i64, .int .i64, .int .i64, .int .i64, .int .i64, .int .i64, .int .i64, .int .i64, .bool], .slc [.int .i64, .int .i64, .int .i64], .slc [.int .i64, .int .i64, .int .i64], .v (.bool false), .slc [.int .i64], .v (.int .i64 0)], []⟩ := ⟨by kernel_rfl, by kernel_rfl, by kernel_rfl, by kernel_rfl, .inl (by kernel_rfl), by kernel_rfl⟩
theorem row82 : RowOK Try.prog 82 ⟨.struct [(0, 1, 3), (1, 1, 78), (2, 1, 31), (3, 1, 79), (4, 1, 4), (5, 1, 80), (6, 1, 3)], 7, 120, [.v (.int .i64 0), .slc [.str, .int .i64, .str, .int .i64, .int .i64, .int .i64, .int .i64, .int .i64, .int .i64, .int .i64, .int .i64, .int .i64, .int .i64, .int .i64, .int .i64, .int .i64, .int .i64, .int .i64, .int .i64, .int .i64, .int .i64, .int .i64, .int .i64, .int .i64, .int .i64, .int .i64, .int .i64, .int .i64, .int .i64, .int .i64, .bool], .slc [.int .i64, .int .i64, .int .i64], .slc [.int .i64, .int .i64, .int .i64], .v (.bool false), .slc [.int .i64], .v (.int .i64 0)], []⟩ := ⟨by kernel_rfl, by kernel_rfl, by kernel_rfl, by kernel_rfl, .inl (by kernel_rfl), by kernel_rfl⟩
theorem row83 : RowOK Try.prog 83 ⟨.other, 1, 8, [.v .nilFunc], []⟩ := ⟨by kernel_rfl, by kernel_rfl, by kernel_rfl, by kernel_rfl, .inl (by kernel_rfl), by kernel_rfl⟩
theorem row84 : RowOK Try.prog 84 ⟨.other, 1, 8, [.v .nilFunc], []⟩ := ⟨by kernel_rfl, by kernel_rfl, by kernel_rfl, by kernel_rfl, .inl (by kernel_rfl), by kernel_rfl⟩
theorem row85 : RowOK Try.prog 85 ⟨.slice 136, 1, 24, [.slc [.str, .int .i64, .str, .int .i64, .int .i64, .int .i64, .int .i64, .int .i64, .int .i64, .int .i64, .int .i64, .int .i64, .int .i64, .int .i64, .int .i64, .int .i64, .int .i64, .int .i64, .int .i64, .int .i64, .int .i64, .int .i64, .int .i64, .int .i64, .int .i64, .int .i64, .int .i64, .int .i64, .int .i64, .int .i64, .bool]], []⟩ := ⟨by kernel_rfl, by kernel_rfl, by kernel_rfl, by kernel_rfl, .inl (by kernel_rfl), by kernel_rfl⟩
theorem row86 : RowOK Try.prog 86 ⟨.slice 25, 1, 24, [.slc [.int .i64, .int .i64, .int .i64]], []⟩ := ⟨by kernel_rfl, by kernel_rfl, by kernel_rfl, by kernel_rfl, .inl (by kernel_rfl), by kernel_rfl⟩
theorem row87 : RowOK Try.prog 87 ⟨.struct [(0, 1, 3), (1, 1, 85), (2, 1, 34), (3, 1, 86), (4, 1, 4), (5, 1, 80), (6, 1, 3)], 7, 120, [.v (.int .i64 0), .slc [.str, .int .i64, .str, .int .i64, .int .i64, .int .i64, .int .i64, .int .i64, .int .i64, .int .i64, .int .i64, .int .i64, .int .i64, .int .i64, .int .i64, .int .i64, .int .i64, .int .i64, .int .i64, .int .i64, .int .i64, .int .i64, .int .i64, .int .i64, .int .i64, .int .i64, .int .i64, .int .i64, .int .i64, .int .i64, .bool], .slc [.int .i64, .int .i64, .int .i64], .slc [.int .i64, .int .i64, .int .i64], .v (.bool false), .slc [.int .i64], .v (.int .i64 0)], []⟩ := ⟨by kernel_rfl, by kernel_rfl, by kernel_rfl, by kernel_rfl, .inl (by kernel_rfl), by kernel_rfl⟩
theorem row88 : RowOK Try.prog 88 ⟨.struct [(0, 1, 3), (1, 1, 85), (2, 1, 34), (3, 1, 86), (4, 1, 4), (5, 1, 80), (6, 1, 3)], 7, 120, [.v (.int .i64 0), .slc [.str, .int .i64, .str, .int .i64, .int .i64, .int .i64, .int .i64, .int .i64, .int .i64, .int .i64, .int .i64, .int .i64, .int .i64, .int .i64, .int .i64, .int .i64, .int .i64, .int .i64, .int .i64, .int .i64, .int .i64, .int .i64, .int .i64, .int .i64, .int .i64, .int .i64, .int .i64, .int .i64, .int .i64, .int .i64, .bool], .slc [.int .i64, .int .i64, .int .i64], .slc [.int .i64, .int .i64, .int .i64], .v (.bool false), .slc [.int .i64], .v (.int .i64 0)], []⟩ := ⟨by kernel_rfl, by kernel_rfl, by kernel_rfl, by kernel_rfl, .inl (by kernel_rfl), by kernel_rfl⟩
theorem row89 : RowOK Try.prog 89 ⟨.other, 1, 8, [.v .nilFunc], []⟩ := ⟨by kernel_rfl, by kernel_rfl, by kernel_rfl, by kernel_rfl, .inl (by kernel_rfl), by kernel_rfl⟩
theorem row90 : RowOK Try.prog 90 ⟨.other, 1, 8, [.v .nilFunc], []⟩ := ⟨by kernel_rfl, by kernel_rfl, by kernel_rfl, by kernel_rfl, .inl (by kernel_rfl), by kernel_rfl⟩
theorem row91 : RowOK Try.prog 91 ⟨.other, 1, 8, [.v .nilFunc], []⟩ := ⟨by kernel_rfl, by kernel_rfl, by kernel_rfl, by kernel_rfl, .inl (by kernel_rfl), by kernel_rfl⟩
theorem row92 : RowOK Try.prog 92 ⟨.other, 1, 8, [.v .nilFunc], []⟩ := ⟨by kernel_rfl, by kernel_rfl, by kernel_rfl, by kernel_rfl, .inl (by kernel_rfl), by kernel_rfl⟩
theorem row93 : RowOK Try.prog 93 ⟨.other, 1, 8, [.v .nilFunc], []⟩ := ⟨by kernel_rfl, by kernel_rfl, by kernel_rfl, by kernel_rfl, .inl (by kernel_rfl), by kernel_rfl⟩
theorem row94 : RowOK Try.prog 94 ⟨.slice 5, 1, 24, [.slc [.int .u8]], []⟩ := ⟨by kernel_rfl, by kernel_rfl, by kernel_rfl, by kernel_rfl, .inl (by kernel_rfl), by kernel_rfl⟩
theorem row95 : RowOK Try.prog 95 ⟨.other, 1, 8, [.v .nilFunc], []⟩ := ⟨by kernel_rfl, by kernel_rfl, by kernel_rfl, by kernel_rfl, .inl (by kernel_rfl), by kernel_rfl⟩
theorem row96 : RowOK Try.prog 96 ⟨.other, 1, 8, [.v .nilFunc], []⟩ := ⟨by kernel_rfl, by kernel_rfl, by kernel_rfl, by kernel_rfl, .inl (by kernel_rfl), by kernel_rfl⟩
theorem row97 : RowOK Try.prog 97 ⟨.struct [(0, 1, 3), (1, 1, 3), (2, 1, 3)], 3, 24, [.v (.int .i64 0), .v (.int .i64 0), .v (.int .i64 0)], [.int .i64, .int .i64, .int .i64]⟩ := ⟨by kernel_rfl, by kernel_rfl, by kernel_rfl, by kernel_rfl, .inr (by kernel_rfl), by kernel_rfl⟩
theorem row98 : RowOK Try.prog 98 ⟨.struct [(0, 1, 3), (1, 1, 3), (2, 1, 3)], 3, 24, [.v (.int .i64 0), .v (.int .i64 0), .v (.int .i64 0)], [.int .i64, .int .i64, .int .i64]⟩ := ⟨by kernel_rfl, by kernel_rfl, by kernel_rfl, by kernel_rfl, .inr (by kernel_rfl), by kernel_rfl⟩
theorem row99 : RowOK Try.prog 99 ⟨.other, 1, 8, [.v .nilFunc], []⟩ := ⟨by kernel_rfl, by kernel_rfl, by kernel_rfl, by kernel_rfl, .inl (by kernel_rfl), by kernel_rfl⟩
theorem row100 : RowOK Try.prog 100 ⟨.struct [(0, 1, 3), (1, 1, 3), (2, 1, 3)], 3, 24, [.v (.int .i64 0), .v (.int .i64 0), .v (.int .i64 0)], [.int .i64, .int .i64, .int .i64]⟩ := ⟨by kernel_rfl, by kernel_rfl, by kernel_rfl, by kernel_rfl, .inr (by kernel_rfl), by kernel_rfl⟩
theorem row101 : RowOK Try.prog 101 ⟨.other, 1, 8, [.v .nilFunc], []⟩ := ⟨by kernel_rfl, by kernel_rfl, by kernel_rfl, by kernel_rfl, .inl (by kernel_rfl), by kernel_rfl⟩
theorem row103 : RowOK Try.prog 103 ⟨.other, 1, 8, [.v .nilFunc], []⟩ := ⟨by kernel_rfl, by kernel_rfl, by kernel_rfl, by kernel_rfl, .inl (by kernel_rfl), by kernel_rfl⟩
theorem row104 : RowOK Try.prog 104 ⟨.other, 1, 8, [.v .nilFunc], []⟩ := ⟨by kernel_rfl, by kernel_rfl, by kernel_rfl, by kernel_rfl, .inl (by kernel_rfl), by kernel_rfl⟩
theorem row105 : RowOK Try.prog 105 ⟨.array 8 9, 8, 128, [.v (.string ByteArray.empty), .v (.string ByteArray.empty), .v (.string ByteArray.empty), .v (.string ByteArray.empty), .v (.string ByteArray.empty), .v (.string ByteArray.empty), .v (.string ByteArray.empty), .v (.string ByteArray.empty)], [.str, .str, .str, .str, .str, .str, .str, .str]⟩ := ⟨by kernel_rfl, by kernel_rfl, by kernel_rfl, by kernel_rfl, .inr (by kernel_rfl), by kernel_rfl⟩
theorem row106 : RowOK Try.prog 106 ⟨.struct [(0, 1, 9), (1, 1, 3), (2, 1, 9), (3, 8, 105)], 11, 168, [.v (.string ByteArray.empty), .v (.int .i64 0), .v (.string ByteArray.empty), .v (.string ByteArray.empty), .v (.string ByteArray.empty), .v (.string ByteArray.empty), .v (.string ByteArray.empty), .v (.string ByteArray.empty), .v (.string ByteArray.empty), .v (.string ByteArray.empty), .v (.string ByteArray.empty)], [.str, .int .i64, .str, .str, .str, .str, .str, .str, .str, .str, .str]⟩ := ⟨by kernel_rfl, by kernel_rfl, by kernel_rfl, by kernel_rfl, .inr (by kernel_rfl), by kernel_rfl⟩
theorem row107 : RowOK Try.prog 107 ⟨.struct [(0, 1, 9), (1, 1, 3), (2, 1, 9), (3, 8, 105)], 11, 168, [.v (.string ByteArray.empty), .v (.int .i64 0), .v (.string ByteArray.empty), .v (.string ByteArray.empty), .v (.string ByteArray.empty), .v (.string ByteArray.empty), .v (.string ByteArray.empty), .v (.string ByteArray.empty), .v (.string ByteArray.empty), .v (.string ByteArray.empty), .v (.string ByteArray.empty)], [.str, .int .i64, .str, .str, .str, .str, .str, .str, .str, .str, .str]⟩ := ⟨by kernel_rfl, by kernel_rfl, by kernel_rfl, by kernel_rfl, .inr (by kernel_rfl), by kernel_rfl⟩
theorem row108 : RowOK Try.prog 108 ⟨.other, 1, 8, [.v .nilFunc], []⟩ := ⟨by kernel_rfl, by kernel_rfl, by kernel_rfl, by kernel_rfl, .inl (by kernel_rfl), by kernel_rfl⟩
theorem row109 : RowOK Try.prog 109 ⟨.other, 1, 8, [.v .nilFunc], []⟩ := ⟨by kernel_rfl, by kernel_rfl, by kernel_rfl, by kernel_rfl, .inl (by kernel_rfl), by kernel_rfl⟩
theorem row110 : RowOK Try.prog 110 ⟨.other, 1, 8, [.v .nilFunc], []⟩ := ⟨by kernel_rfl, by kernel_rfl, by kernel_rfl, by kernel_rfl, .inl (by kernel_rfl), by kernel_rfl⟩
theorem row111 : RowOK Try.prog 111 ⟨.other, 1, 8, [.v .nilFunc], []⟩ := ⟨by kernel_rfl, by kernel_rfl, by kernel_rfl, by kernel_rfl, .inl (by kernel_rfl), by kernel_rfl⟩
theorem row112 : RowOK Try.prog 112 ⟨.other, 1, 8, [.v .nilFunc], []⟩ := ⟨by kernel_rfl, by kernel_rfl, by kernel_rfl, by kernel_rfl, .inl (by kernel_rfl), by kernel_rfl⟩
theorem row113 : RowOK Try.prog 113 ⟨.other, 1, 8, [.v .nilFunc], []⟩ := ⟨by kernel_rfl, by kernel_rfl, by kernel_rfl, by kernel_rfl, .inl (by kernel_rfl), by kernel_rfl⟩
theorem row114 : RowOK Try.prog 114 ⟨.other, 1, 8, [.v .nilFunc], []⟩ := ⟨by kernel_rfl, by kernel_rfl, by kernel_rfl, by kernel_rfl, .inl (by kernel_rfl), by kernel_rfl⟩
theorem row115 : RowOK Try.prog 115 ⟨.other, 1, 8, [.v .nilFunc], []⟩ := ⟨by kernel_rfl, by kernel_rfl, by kernel_rfl, by kernel_rfl, .inl (by kernel_rfl), by kernel_rfl⟩
theorem row116 : RowOK Try.prog 116 ⟨.struct [(0, 1, 3), (1, 1, 3), (2, 1, 9)], 3, 32, [.v (.int .i64 0), .v (.int .i64 0), .v (.string ByteArray.empty)], [.int .i64, .int .i64, .str]⟩ := ⟨by kernel_rfl, by kernel_rfl, by kernel_rfl, by kernel_rfl, .inr (by kernel_rfl), by kernel_rfl⟩
theorem row117 : RowOK Try.prog 117 ⟨.struct [(0, 1, 3), (1, 1, 3), (2, 1, 9)], 3, 32, [.v (.int .i64 0), .v (.int .i64 0), .v (.string ByteArray.empty)], [.int .i64, .int .i64, .str]⟩ := ⟨by kernel_rfl, by kernel_rfl, by kernel_rfl, by kernel_rfl, .inr (by kernel_rfl), by kernel_rfl⟩
theorem row118 : RowOK Try.prog 118 ⟨.other, 1, 8, [.v .nilFunc], []⟩ := ⟨by kernel_rfl, by kernel_rfl, by kernel_rfl, by kernel_rfl, .inl (by kernel_rfl), by kernel_rfl⟩
theorem row119 : RowOK Try.prog 119 ⟨.other, 1, 8, [.v .nilFunc], []⟩ := ⟨by kernel_rfl, by kernel_rfl, by kernel_rfl, by kernel_rfl, .inl (by kernel_rfl), by kernel_rfl⟩
theorem row120 : RowOK Try.prog 120 ⟨.other, 1, 8, [.v .nilFunc], []⟩ := ⟨by kernel_rfl, by kernel_rfl, by kernel_rfl, by kernel_rfl, .inl (by kernel_rfl), by kernel_rfl⟩
theorem row121 : RowOK Try.prog 121 ⟨.other, 1, 8, [.v .nilFunc], []⟩ := ⟨by kernel_rfl, by kernel_rfl, by kernel_rfl, by kernel_rfl, .inl (by kernel_rfl), by kernel_rfl⟩
theorem row122 : RowOK Try.prog 122 ⟨.other, 1, 8, [.v .nilFunc], []⟩ := ⟨by kernel_rfl, by kernel_rfl, by kernel_rfl, by kernel_rfl, .inl (by kernel_rfl), by kernel_rfl⟩
theorem row123 : RowOK Try.prog 123 ⟨.other, 1, 8, [.v .nilFunc], []⟩ := ⟨by kernel_rfl, by kernel_rfl, by kernel_rfl, by kernel_rfl, .inl (by kernel_rfl), by kernel_rfl⟩
theorem row124 : RowOK Try.prog 124 ⟨.other, 1, 8, [.v .nilFunc], []⟩ := ⟨by kernel_rfl, by kernel_rfl, by kernel_rfl, by kernel_rfl, .inl (by kernel_rfl), by kernel_rfl⟩
theorem row125 : RowOK Try.prog 125 ⟨.other, 1, 8, [.v .nilFunc], []⟩ := ⟨by kernel_rfl, by kernel_rfl, by kernel_rfl, by kernel_rfl, .inl (by kernel_rfl), by kernel_rfl⟩
theorem row126 : RowOK Try.prog 126 ⟨.other, 1, 8, [.v .nilFunc], []⟩ := ⟨by kernel_rfl, by kernel_rfl, by kernel_rfl, by kernel_rfl, .inl (by kernel_rfl), by kernel_rfl⟩
theorem row127 : RowOK Try.prog 127 ⟨.other, 1, 8, [.v .nilFunc], []⟩ := ⟨by kernel_rfl, by kernel_rfl, by kernel_rfl, by kernel_rfl, .inl (by kernel_rfl), by kernel_rfl⟩
theorem row128 : RowOK Try.prog 128 ⟨.other, 1, 8, [.v .nilFunc], []⟩ := ⟨by kernel_rfl, by kernel_rfl, by kernel_rfl, by kernel_rfl, .inl (by kernel_rfl), by kernel_rfl⟩
theorem row129 : RowOK Try.prog 129 ⟨.other, 1, 8, [.v .nilFunc], []⟩ := ⟨by kernel_rfl, by kernel_rfl, by kernel_rfl, by kernel_rfl, .inl (by kernel_rfl), by kernel_rfl⟩
theorem row130 : RowOK Try.prog 130 ⟨.other, 1, 8, [.v .nilFunc], []⟩ := ⟨by kernel_rfl, by kernel_rfl, by kernel_rfl, by kernel_rfl, .inl (by kernel_rfl), by kernel_rfl⟩
theorem row131 : RowOK Try.prog 131 ⟨.other, 1, 8, [.v .nilFunc], []⟩ := ⟨by kernel_rfl, by kernel_rfl, by kernel_rfl, by kernel_rfl, .inl (by kernel_rfl), by kernel_rfl⟩
theorem row132 : RowOK Try.prog 132 ⟨.other, 1, 8, [.v .nilFunc], []⟩ := ⟨by kernel_rfl, by kernel_rfl, by kernel_rfl, by kernel_rfl, .inl (by kernel_rfl), by kernel_rfl⟩
theorem row133 : RowOK Try.prog 133 ⟨.other, 1, 8, [.v .nilFunc], []⟩ := ⟨by kernel_rfl, by kernel_rfl, by kernel_rfl, by kernel_rfl, .inl (by kernel_rfl), by kernel_rfl⟩
theorem row134 : RowOK Try.prog 134 ⟨.array 8 25, 24, 192, [.v (.int .i64 0), .v (.int .i64 0), .v (.int .i64 0), .v (.int .i64 0), .v (.int .i64 0), .v (.int .i64 0), .v (.int .i64 0), .v (.int .i64 0), .v (.int .i64 0), .v (.int .i64 0), .v (.int .i64 0), .v (.int .i64 0), .v (.int .i64 0), .v (.int .i64 0), .v (.int .i64 0), .v (.int .i64 0), .v (.int .i64 0), .v (.int .i64 0), .v (.int .i64 0), .v (.int .i64 0), .v (.int .i64 0), .v (.int .i64 0), .v (.int .i64 0), .v (.int .i64 0)], [.int .i64, .int .i64, .int .i64, .int .i64, .int .i64, .int .i64, .int .i64, .int .i64, .int .i64, .int .i64, .int .i64, .int .i64, .int .i64, .int .i64, .int .i64, .int .i64, .int .i64, .int .i64, .int .i64, .int .i64, .int .i64, .int .i64, .int .i64, .int .i64]⟩ := ⟨by kernel_rfl, by kernel_rfl, by kernel_rfl, by kernel_rfl, .inr (by kernel_rfl), by kernel_rfl⟩
theorem row135 : RowOK Try.prog 135 ⟨.struct [(0, 1, 9), (1, 1, 3), (2, 1, 9), (3, 24, 134), (27, 3, 25), (30, 1, 4)], 31, 264, [.v (.string ByteArray.empty), .v (.int .i64 0), .v (.string ByteArray.empty), .v (.int .i64 0), .v (.int .i64 0), .v (.int .i64 0), .v (.int .i64 0), .v (.int .i64 0), .v (.int .i64 0), .v (.int .i64 0), .v (.int .i64 0), .v (.int .i64 0), .v (.int .i64 0), .v (.int .i64 0), .v (.int .i64 0), .v (.int .i64 0), .v (.int .i64 0), .v (.int .i64 0), .v (.int .i64 0), .v (.int .i64 0), .v (.int .i64 0), .v (.int .i64 0), .v (.int .i64 0), .v (.int .i64 0), .v (.int .i64 0), .v (.int .i64 0), .v (.int .i64 0), .v (.int .i64 0), .v (.int .i64 0), .v (.int .i64 0), .v (.bool false)], [.str, .int .i64, .str, .int .i64, .int .i64, .int .i64, .int .i64, .int .i64, .int .i64, .int .i64, .int .i64, .int .i64, .int .i64, .int .i64, .int .i64, .int .i64, .int .i64, .int .i64, .int .i64, .int .i64, .int .i64, .int .i64, .int .i64, .int .i64, .int .i64, .int .i64, .int .i64, .int .i64, .int .i64, .int .i64, .bool]⟩ := ⟨by kernel_rfl, by kernel_rfl, by kernel_rfl, by kernel_rfl, .inr (by kernel_rfl), by kernel_rfl⟩
theorem row136 : RowOK Try.prog 136 ⟨.struct [(0, 1, 9), (1, 1, 3), (2, 1, 9), (3, 24, 134), (27, 3, 25), (30, 1, 4)], 31, 264, [.v (.string ByteArray.empty), .v (.int .i64 0), .v (.string ByteArray.empty), .v (.int .i64 0), .v (.int .i64 0), .v (.int .i64 0), .v (.int .i64 0), .v (.int .i64 0), .v (.int .i64 0), .v (.int .i64 0), .v (.int .i64 0), .v (.int .i64 0), .v (.int .i64 0), .v (.int .i64 0), .v (.int .i64 0), .v (.int .i64 0), .v (.int .i64 0), .v (.int .i64 0), .v (.int .i64 0), .v (.int .i64 0), .v (.int .i64 0), .v (.int .i64 0), .v (.int .i64 0), .v (.int .i64 0), .v (.int .i64 0), .v (.int .i64 0), .v (.int .i64 0), .v (.int .i64 0), .v (.int .i64 0), .v (.int .i64 0), .v (.bool false)], [.str, .int .i64, .str, .int .i64, .int .i64, .int .i64, .int .i64, .int .i64, .int .i64, .int .i64, .int .i64, .int .i64, .int .i64, .int .i64, .int .i64, .int .i64, .int .i64, .int .i64, .int .i64, .int .i64, .int .i64, .int .i64, .int .i64, .int .i64, .int .i64, .int .i64, .int .i64, .int .i64, .int .i64, .int .i64, .bool]⟩ := ⟨by kernel_rfl, by kernel_rfl, by kernel_rfl, by kernel_rfl, .inr (by kernel_rfl), by kernel_rfl⟩
theorem row137 : RowOK Try.prog 137 ⟨.other, 1, 8, [.v .nilFunc], []⟩ := ⟨by kernel_rfl, by kernel_rfl, by kernel_rfl, by kernel_rfl, .inl (by kernel_rfl), by kernel_rfl⟩
theorem row138 : RowOK Try.prog 138 ⟨.other, 1, 8, [.v .nilFunc], []⟩ := ⟨by kernel_rfl, by kernel_rfl, by kernel_rfl, by kernel_rfl, .inl (by kernel_rfl), by kernel_rfl⟩
theorem row139 : RowOK Try.prog 139 ⟨.other, 1, 8, [.v .nilFunc], []⟩ := ⟨by kernel_rfl, by kernel_rfl, by kernel_rfl, by kernel_rfl, .inl (by kernel_rfl), by kernel_rfl⟩
theorem row140 : RowOK Try.prog 140 ⟨.other, 1, 8, [.v .nilFunc], []⟩ := ⟨by kernel_rfl, by kernel_rfl, by kernel_rfl, by kernel_rfl, .inl (by kernel_rfl), by kernel_rfl⟩
theorem row141 : RowOK Try.prog 141 ⟨.other, 1, 8, [.v .nilFunc], []⟩ := ⟨by kernel_rfl, by kernel_rfl, by kernel_rfl, by kernel_rfl, .inl (by kernel_rfl), by kernel_rfl⟩
theorem row142 : RowOK Try.prog 142 ⟨.other, 1, 8, [.v .nilFunc], []⟩ := ⟨by kernel_rfl, by kernel_rfl, by kernel_rfl, by kernel_rfl, .inl (by kernel_rfl), by kernel_rfl⟩
theorem row143 : RowOK Try.prog 143 ⟨.other, 1, 8, [.v .nilFunc], []⟩ := ⟨by kernel_rfl, by kernel_rfl, by kernel_rfl, by kernel_rfl, .inl (by kernel_rfl), by kernel_rfl⟩
theorem row144 : RowOK Try.prog 144 ⟨.other, 1, 8, [.v .nilFunc], []⟩ := ⟨by kernel_rfl, by kernel_rfl, by kernel_rfl, by kernel_rfl, .inl (by kernel_rfl), by kernel_rfl⟩
theorem row145 : RowOK Try.prog 145 ⟨.struct [(0, 1, 9), (1, 1, 3), (2, 1, 9), (3, 8, 105)], 11, 168, [.v (.string ByteArray.empty), .v (.int .i64 0), .v (.string ByteArray.empty), .v (.string ByteArray.empty), .v (.string ByteArray.empty), .v (.string ByteArray.empty), .v (.string ByteArray.empty), .v (.string ByteArray.empty), .v (.string ByteArray.empty), .v (.string ByteArray.empty), .v (.string ByteArray.empty)], [.str, .int .i64, .str, .str, .str, .str, .str, .str, .str, .str, .str]⟩ := ⟨by kernel_rfl, by kernel_rfl, by kernel_rfl, by kernel_rfl, .inr (by kernel_rfl), by kernel_rfl⟩
theorem row146 : RowOK Try.prog 146 ⟨.other, 1, 8, [.v .nilFunc], []⟩ := ⟨by kernel_rfl, by kernel_rfl, by kernel_rfl, by kernel_rfl, .inl (by kernel_rfl), by kernel_rfl⟩
theorem row147 : RowOK Try.prog 147 ⟨.other, 1, 8, [.v .nilFunc], []⟩ := ⟨by kernel_rfl, by kernel_rfl, by kernel_rfl, by kernel_rfl, .inl (by kernel_rfl), by kernel_rfl⟩
theorem row148 : RowOK Try.prog 148 ⟨.other, 1, 8, [.v .nilFunc], []⟩ := ⟨by kernel_rfl, by kernel_rfl, by kernel_rfl, by kernel_rfl, .inl (by kernel_rfl), by kernel_rfl⟩
theorem row149 : RowOK Try.prog 149 ⟨.other, 1, 8, [.v .nilFunc], []⟩ := ⟨by kernel_rfl, by kernel_rfl, by kernel_rfl, by kernel_rfl, .inl (by kernel_rfl), by kernel_rfl⟩
theorem row150 : RowOK Try.prog 150 ⟨.other, 1, 8, [.v .nilFunc], []⟩ := ⟨by kernel_rfl, by kernel_rfl, by kernel_rfl, by kernel_rfl, .inl (by kernel_rfl), by kernel_rfl⟩
theorem row151 : RowOK Try.prog 151 ⟨.other, 1, 8, [.v .nilFunc], []⟩ := ⟨by kernel_rfl, by kernel_rfl, by kernel_rfl, by kernel_rfl, .inl (by kernel_rfl), by kernel_rfl⟩
theorem row152 : RowOK Try.prog 152 ⟨.struct [(0, 1, 3), (1, 1, 3), (2, 1, 9)], 3, 32, [.v (.int .i64 0), .v (.int .i64 0), .v (.string ByteArray.empty)], [.int .i64, .int .i64, .str]⟩ := ⟨by kernel_rfl, by kernel_rfl, by kernel_rfl, by kernel_rfl, .inr (by kernel_rfl), by kernel_rfl⟩
theorem row153 : RowOK Try.prog 153 ⟨.other, 1, 8, [.v .nilFunc], []⟩ := ⟨by kernel_rfl, by kernel_rfl, by kernel_rfl, by kernel_rfl, .inl (by kernel_rfl), by kernel_rfl⟩
theorem row154 : RowOK Try.prog 154 ⟨.other, 1, 8, [.v .nilFunc], []⟩ := ⟨by kernel_rfl, by kernel_rfl, by kernel_rfl, by kernel_rfl, .inl (by kernel_rfl), by kernel_rfl⟩
theorem row155 : RowOK Try.prog 155 ⟨.other, 1, 8, [.v .nilFunc], []⟩ := ⟨by kernel_rfl, by kernel_rfl, by kernel_rfl, by kernel_rfl, .inl (by kernel_rfl), by kernel_rfl⟩
theorem row156 : RowOK Try.prog 156 ⟨.other, 1, 8, [.v .nilFunc], []⟩ := ⟨by kernel_rfl, by kernel_rfl, by kernel_rfl, by kernel_rfl, .inl (by kernel_rfl), by kernel_rfl⟩
theorem row157 : RowOK Try.prog 157 ⟨.other, 1, 8, [.v .nilFunc], []⟩ := ⟨by kernel_rfl, by kernel_rfl, by kernel_rfl, by kernel_rfl, .inl (by kernel_rfl), by kernel_rfl⟩
theorem row158 : RowOK Try.prog 158 ⟨.other, 1, 8, [.v .nilFunc], []⟩ := ⟨by kernel_rfl, by kernel_rfl, by kernel_rfl, by kernel_rfl, .inl (by kernel_rfl), by kernel_rfl⟩
theorem row159 : RowOK Try.prog 159 ⟨.other, 1, 8, [.v .nilFunc], []⟩ := ⟨by kernel_rfl, by kernel_rfl, by kernel_rfl, by kernel_rfl, .inl (by kernel_rfl), by kernel_rfl⟩
theorem row160 : RowOK Try.prog 160 ⟨.array 8 23, 24, 192, [.v (.int .i64 0), .v (.int .i64 0), .v (.int .i64 0), .v (.int .i64 0), .v (.int .i64 0), .v (.int .i64 0), .v (.int .i64 0), .v (.int .i64 0), .v (.int .i64 0), .v (.int .i64 0), .v (.int .i64 0), .v (.int .i64 0), .v (.int .i64 0), .v (.int .i64 0), .v (.int .i64 0), .v (.int .i64 0), .v (.int .i64 0), .v (.int .i64 0), .v (.int .i64 0), .v (.int .i64 0), .v (.int .i64 0), .v (.int .i64 0), .v (.int .i64 0), .v (.int .i64 0)], [.int .i64, .int .i64, .int .i64, .int .i64, .int .i64, .int .i64, .int .i64, .int .i64, .int .i64, .int .i64, .int .i64, .int .i64, .int .i64, .int .i64, .int .i64, .int .i64, .int .i64, .int .i64, .int .i64, .int .i64, .int .i64, .int .i64, .int .i64, .int .i64]⟩ := ⟨by kernel_rfl, by kernel_rfl, by kernel_rfl, by kernel_rfl, .inr (by kernel_rfl), by kernel_rfl⟩
theorem row161 : RowOK Try.prog 161 ⟨.struct [(0, 1, 9), (1, 1, 3), (2, 1, 9), (3, 24, 160), (27, 3, 23), (30, 1, 4)], 31, 264, [.v (.string ByteArray.empty), .v (.int .i64 0), .v (.string ByteArray.empty), .v (.int .i64 0), .v (.int .i64 0), .v (.int .i64 0), .v (.int .i64 0), .v (.int .i64 0), .v (.int .i64 0), .v (.int .i64 0), .v (.int .i64 0), .v (.int .i64 0), .v (.int .i64 0), .v (.int .i64 0), .v (.int .i64 0), .v (.int .i64 0), .v (.int .i64 0), .v (.int .i64 0), .v (.int .i64 0), .v (.int .i64 0), .v (.int .i64 0), .v (.int .i64 0), .v (.int .i64 0), .v (.int .i64 0), .v (.int .i64 0), .v (.int .i64 0), .v (.int .i64 0), .v (.int .i64 0), .v (.int .i64 0), .v (.int .i64 0), .v (.bool false)], [.str, .int .i64, .str, .int .i64, .int .i64, .int .i64, .int .i64, .int .i64, .int .i64, .int .i64, .int .i64, .int .i64, .int .i64, .int .i64, .int .i64, .int .i64, .int .i64, .int .i64, .int .i64, .int .i64, .int .i64, .int .i64, .int .i64, .int .i64, .int .i64, .int .i64, .int .i64, .int .i64, .int .i64, .int .i64, .bool]⟩ := ⟨by kernel_rfl, by kernel_rfl, by kernel_rfl, by kernel_rfl, .inr (by kernel_rfl), by kernel_rfl⟩
theorem row162 : RowOK Try.prog 162 ⟨.struct [(0, 1, 9), (1, 1, 3), (2, 1, 9), (3, 24, 160), (27, 3, 23), (30, 1, 4)], 31, 264, [.v (.string ByteArray.empty), .v (.int .i64 0), .v (.string ByteArray.empty), .v (.int .i64 0), .v (.int .i64 0), .v (.int .i64 0), .v (.int .i64 0), .v (.int .i64 0), .v (.int .i64 0), .v (.int .i64 0), .v (.int .i64 0), .v (.int .i64 0), .v (.int .i64 0), .v (.int .i64 0), .v (.int .i64 0), .v (.int .i64 0), .v (.int .i64 0), .v (.int .i64 0), .v (.int .i64 0), .v (.int .i64 0), .v (.int .i64 0), .v (.int .i64 0), .v (.int .i64 0), .v (.int .i64 0), .v (.int .i64 0), .v (.int .i64 0), .v (.int .i64 0), .v (.int .i64 0), .v (.int .i64 0), .v (.int .i64 0), .v (.bool false)], [.str, .int .i64, .str, .int .i64, .int .i64, .int .i64, .int .i64, .int .i64, .int .i64, .int .i64, .int .i64, .int .i64, .int .i64, .int .i64, .int .i64, .int .i64, .int .i64, .int .i64, .int .i64, .int .i64, .int .i64, .int .i64, .int .i64, .int .i64, .int .i64, .int .i64, .int .i64, .int .i64, .int .i64, .int .i64, .bool]⟩ := ⟨by kernel_rfl, by kernel_rfl, by kernel_rfl, by kernel_rfl, .inr (by kernel_rfl), by kernel_rfl⟩
theorem row163 : RowOK Try.prog 163 ⟨.other, 1, 8, [.v .nilFunc], []⟩ := ⟨by kernel_rfl, by kernel_rfl, by kernel_rfl, by kernel_rfl, .inl (by kernel_rfl), by kernel_rfl⟩
theorem row164 : RowOK Try.prog 164 ⟨.other, 1, 8, [.v .nilFunc], []⟩ := ⟨by kernel_rfl, by kernel_rfl, by kernel_rfl, by kernel_rfl, .inl (by kernel_rfl), by kernel_rfl⟩
theorem row165 : RowOK Try.prog 165 ⟨.other, 1, 8, [.v .nilFunc], []⟩ := ⟨by kernel_rfl, by kernel_rfl, by kernel_rfl, by kernel_rfl, .inl (by kernel_rfl), by kernel_rfl⟩
theorem row166 : RowOK Try.prog 166 ⟨.int .u64, 1, 8, [.v (.int .u64 0)], [.int .u64]⟩ := ⟨by kernel_rfl, by kernel_rfl, by kernel_rfl, by kernel_rfl, .inr (by kernel_rfl), by kernel_rfl⟩
theorem row167 : RowOK Try.prog 167 ⟨.other, 1, 8, [.v .nilFunc], []⟩ := ⟨by kernel_rfl, by kernel_rfl, by kernel_rfl, by kernel_rfl, .inl (by kernel_rfl), by kernel_rfl⟩
theorem row168 : RowOK Try.prog 168 ⟨.other, 1, 8, [.v .nilFunc], []⟩ := ⟨by kernel_rfl, by kernel_rfl, by kernel_rfl, by kernel_rfl, .inl (by kernel_rfl), by kernel_rfl⟩
theorem row169 : RowOK Try.prog 169 ⟨.other, 1, 8, [.v .nilFunc], []⟩ := ⟨by kernel_rfl, by kernel_rfl, by kernel_rfl, by kernel_rfl, .inl (by kernel_rfl), by kernel_rfl⟩
theorem row170 : RowOK Try.prog 170 ⟨.other, 1, 8, [.v .nilFunc], []⟩ := ⟨by kernel_rfl, by kernel_rfl, by kernel_rfl, by kernel_rfl, .inl (by kernel_rfl), by kernel_rfl⟩
theorem row171 : RowOK Try.prog 171 ⟨.other, 1, 8, [.v .nilFunc], []⟩ := ⟨by kernel_rfl, by kernel_rfl, by kernel_rfl, by kernel_rfl, .inl (by kernel_rfl), by kernel_rfl⟩
theorem row172 : RowOK Try.prog 172 ⟨.other, 1, 8, [.v .nilFunc], []⟩ := ⟨by kernel_rfl, by kernel_rfl, by kernel_rfl, by kernel_rfl, .inl (by kernel_rfl), by kernel_rfl⟩
theorem row173 : RowOK Try.prog 173 ⟨.other, 1, 8, [.v .nilFunc], []⟩ := ⟨by kernel_rfl, by kernel_rfl, by kernel_rfl, by kernel_rfl, .inl (by kernel_rfl), by kernel_rfl⟩
theorem row174 : RowOK Try.prog 174 ⟨.other, 1, 8, [.v .nilFunc], []⟩ := ⟨by kernel_rfl, by kernel_rfl, by kernel_rfl, by kernel_rfl, .inl (by kernel_rfl), by kernel_rfl⟩
theorem row175 : RowOK Try.prog 175 ⟨.struct [(0, 1, 17), (1, 1, 17), (2, 1, 17), (3, 1, 9)], 4, 40, [.v (.pointer none), .v (.pointer none), .v (.pointer none), .v (.string ByteArray.empty)], []⟩ := ⟨by kernel_rfl, by kernel_rfl, by kernel_rfl, by kernel_rfl, .inl (by kernel_rfl), by kernel_rfl⟩
theorem row176 : RowOK Try.prog 176 ⟨.struct [(0, 1, 17), (1, 1, 17), (2, 1, 17), (3, 1, 9)], 4, 40, [.v (.pointer none), .v (.pointer none), .v (.pointer none), .v (.string ByteArray.empty)], []⟩ := ⟨by kernel_rfl, by kernel_rfl, by kernel_rfl, by kernel_rfl, .inl (by kernel_rfl), by kernel_rfl⟩
theorem row177 : RowOK Try.prog 177 ⟨.array 0 16, 0, 0, [], []⟩ := ⟨by kernel_rfl, by kernel_rfl, by kernel_rfl, by kernel_rfl, .inl (by kernel_rfl), by kernel_rfl⟩
theorem row178 : RowOK Try.prog 178 ⟨.struct [(0, 0, 177)], 0, 0, [], []⟩ := ⟨by kernel_rfl, by kernel_rfl, by kernel_rfl, by kernel_rfl, .inl (by kernel_rfl), by kernel_rfl⟩
theorem row179 : RowOK Try.prog 179 ⟨.struct [(0, 0, 177)], 0, 0, [], []⟩ := ⟨by kernel_rfl, by kernel_rfl, by kernel_rfl, by kernel_rfl, .inl (by kernel_rfl), by kernel_rfl⟩
theorem row180 : RowOK Try.prog 180 ⟨.other, 1, 8, [.v .nilFunc], []⟩ := ⟨by kernel_rfl, by kernel_rfl, by kernel_rfl, by kernel_rfl, .inl (by kernel_rfl), by kernel_rfl⟩
theorem row181 : RowOK Try.prog 181 ⟨.int .u32, 1, 4, [.v (.int .u32 0)], [.int .u32]⟩ := ⟨by kernel_rfl, by kernel_rfl, by kernel_rfl, by kernel_rfl, .inr (by kernel_rfl), by kernel_rfl⟩
theorem row182 : RowOK Try.prog 182 ⟨.int .u8, 1, 1, [.v (.int .u8 0)], [.int .u8]⟩ := ⟨by kernel_rfl, by kernel_rfl, by kernel_rfl, by kernel_rfl, .inr (by kernel_rfl), by kernel_rfl⟩
theorem row183 : RowOK Try.prog 183 ⟨.int .u8, 1, 1, [.v (.int .u8 0)], [.int .u8]⟩ := ⟨by kernel_rfl, by kernel_rfl, by kernel_rfl, by kernel_rfl, .inr (by kernel_rfl), by kernel_rfl⟩
theorem row184 : RowOK Try.prog 184 ⟨.other, 1, 8, [.v .nilFunc], []⟩ := ⟨by kernel_rfl, by kernel_rfl, by kernel_rfl, by kernel_rfl, .inl (by kernel_rfl), by kernel_rfl⟩
theorem row185 : RowOK Try.prog 185 ⟨.other, 1, 8, [.v (.pointer none)], []⟩ := ⟨by kernel_rfl, by kernel_rfl, by kernel_rfl, by kernel_rfl, .inl (by kernel_rfl), by kernel_rfl⟩
theorem row186 : RowOK Try.prog 186 ⟨.int .i32, 1, 4, [.v (.int .i32 0)], [.int .i32]⟩ := ⟨by kernel_rfl, by kernel_rfl, by kernel_rfl, by kernel_rfl, .inr (by kernel_rfl), by kernel_rfl⟩
theorem row187 : RowOK Try.prog 187 ⟨.int .i32, 1, 4, [.v (.int .i32 0)], [.int .i32]⟩ := ⟨by kernel_rfl, by kernel_rfl, by kernel_rfl, by kernel_rfl, .inr (by kernel_rfl), by kernel_rfl⟩
theorem row188 : RowOK Try.prog 188 ⟨.struct [(0, 1, 12), (1, 1, 12), (2, 1, 181), (3, 1, 182), (4, 1, 5), (5, 1, 5), (6, 1, 183), (7, 1, 184), (8, 1, 185), (9, 1, 186), (10, 1, 187)], 11, 48, [.v (.int .u64 0), .v (.int .u64 0), .v (.int .u32 0), .v (.int .u8 0), .v (.int .u8 0), .v (.int .u8 0), .v (.int .u8 0), .v .nilFunc, .v (.pointer none), .v (.int .i32 0), .v (.int .i32 0)], []⟩ := ⟨by kernel_rfl, by kernel_rfl, by kernel_rfl, by kernel_rfl, .inl (by kernel_rfl), by kernel_rfl⟩
theorem row189 : RowOK Try.prog 189 ⟨.struct [(0, 1, 12), (1, 1, 12), (2, 1, 181), (3, 1, 182), (4, 1, 5), (5, 1, 5), (6, 1, 183), (7, 1, 184), (8, 1, 185), (9, 1, 186), (10, 1, 187)], 11, 48, [.v (.int .u64 0), .v (.int .u64 0), .v (.int .u32 0), .v (.int .u8 0), .v (.int .u8 0), .v (.int .u8 0), .v (.int .u8 0), .v .nilFunc, .v (.pointer none), .v (.int .i32 0), .v (.int .i32 0)], []⟩ := ⟨by kernel_rfl, by kernel_rfl, by kernel_rfl, by kernel_rfl, .inl (by kernel_rfl), by kernel_rfl⟩
theorem row190 : RowOK Try.prog 190 ⟨.other, 1, 8, [.v .nilFunc], []⟩ := ⟨by kernel_rfl, by kernel_rfl, by kernel_rfl, by kernel_rfl, .inl (by kernel_rfl), by kernel_rfl⟩
theorem ttOK : TTOK Try.prog tt := RowsOK.all tt ⟨row1, row2, row3, row4, row5, row6, row7, row8, row9, row10, row11, row12, row13, row14, row15, row16, row17, row18, row19, row20, row21, row22, row23, row24, row25, row26, row27, row29, row30, row31, row32, row33, row34, row35, row36, row37, row38, row39, row40, row41, row42, row43, row44, row45, row46, row47, row48, row49, row50, row51, row52, row53, row54, row55, row56, row57, row58, row59, row60, row61, row62, row63, row64, row65, row66, row68, row69, row70, row71, row72, row74, row75, row76, row77, row78, row79, row80, row81, row82, row83, row84, row85, row86, row87, row88, row89, row90, row91, row92, row93, row94, row95, row96, row97, row98, row99, row100, row101, row103, row104, row105, row106, row107, row108, row109, row110, row111, row112, row113, row114, row115, row116, row117, row118, row119, row120, row121, row122, row123, row124, row125, row126, row127, row128, row129, row130, row131, row132, row133, row134, row135, row136, row137, row138, row139, row140, row141, row142, row143, row144, row145, row146, row147, row148, row149, row150, row151, row152, row153, row154, row155, row156, row157, row158, row159, row160, row161, row162, row163, row164, row165, row166, row167, row168, row169, row170, row171, row172, row173, row174, row175, row176, row177, row178, row179, row180, row181, row182, row183, row184, row185, row186, row187, row188, row189, row190, trivial⟩
def E0 : Env := ⟨tt, [], [25, 107, 117, 136, 98], .skip, []⟩
theorem eqsOK : EqsOK Try.prog E0 := eqs_ok (eqs_one (ti := ⟨.struct [(0, 1, 3), (1, 1, 3), (2, 1, 3)], 3, 24, [.v (.int .i64 0), .v (.int .i64 0), .v (.int .i64 0)], [.int .i64, .int .i64, .int .i64]⟩) (by kernel_rfl) ⟨by kernel_rfl, by kernel_rfl, by kernel_rfl⟩ (eqs_one (ti := ⟨.struct [(0, 1, 9), (1, 1, 3), (2, 1, 9), (3, 8, 105)], 11, 168, [.v (.string ByteArray.empty), .v (.int .i64 0), .v (.string ByteArray.empty), .v (.string ByteArray.empty), .v (.string ByteArray.empty), .v (.string ByteArray.empty), .v (.string ByteArray.empty), .v (.string ByteArray.empty), .v (.string ByteArray.empty), .v (.string ByteArray.empty), .v (.string ByteArray.empty)], [.str, .int .i64, .str, .str, .str, .str, .str, .str, .str, .str, .str]⟩) (by kernel_rfl) ⟨by kernel_rfl, by kernel_rfl, by kernel_rfl⟩ (eqs_one (ti := ⟨.struct [(0, 1, 3), (1, 1, 3), (2, 1, 9)], 3, 32, [.v (.int .i64 0), .v (.int .i64 0), .v (.string ByteArray.empty)], [.int .i64, .int .i64, .str]⟩) (by kernel_rfl) ⟨by kernel_rfl, by kernel_rfl, by kernel_rfl⟩ (eqs_one (ti := ⟨.struct [(0, 1, 9), (1, 1, 3), (2, 1, 9), (3, 24, 134), (27, 3, 25), (30, 1, 4)], 31, 264, [.v (.string ByteArray.empty), .v (.int .i64 0), .v (.string ByteArray.empty), .v (.int .i64 0), .v (.int .i64 0), .v (.int .i64 0), .v (.int .i64 0), .v (.int .i64 0), .v (.int .i64 0), .v (.int .i64 0), .v (.int .i64 0), .v (.int .i64 0), .v (.int .i64 0), .v (.int .i64 0), .v (.int .i64 0), .v (.int .i64 0), .v (.int .i64 0), .v (.int .i64 0), .v (.int .i64 0), .v (.int .i64 0), .v (.int .i64 0), .v (.int .i64 0), .v (.int .i64 0), .v (.int .i64 0), .v (.int .i64 0), .v (.int .i64 0), .v (.int .i64 0), .v (.int .i64 0), .v (.int .i64 0), .v (.int .i64 0), .v (.bool false)], [.str, .int .i64, .str, .int .i64, .int .i64, .int .i64, .int .i64, .int .i64, .int .i64, .int .i64, .int .i64, .int .i64, .int .i64, .int .i64, .int .i64, .int .i64, .int .i64, .int .i64, .int .i64, .int .i64, .int .i64, .int .i64, .int .i64, .int .i64, .int .i64, .int .i64, .int .i64, .int .i64, .int .i64, .int .i64, .bool]⟩) (by kernel_rfl) ⟨by kernel_rfl, by kernel_rfl, by kernel_rfl⟩ (eqs_one (ti := ⟨.struct [(0, 1, 3), (1, 1, 3), (2, 1, 3)], 3, 24, [.v (.int .i64 0), .v (.int .i64 0), .v (.int .i64 0)], [.int .i64, .int .i64, .int .i64]⟩) (by kernel_rfl) ⟨by kernel_rfl, by kernel_rfl, by kernel_rfl⟩ (trivial))))))
theorem ok0 : Ok Try.prog E0 := ⟨ttOK, eqsOK, by kernel_rfl⟩
end Go.Proofs.Ytjhjhkphcemcmaa.Ev

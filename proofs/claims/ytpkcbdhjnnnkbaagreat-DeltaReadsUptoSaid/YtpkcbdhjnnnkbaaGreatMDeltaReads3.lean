/- Part 3 of the proof that DeltaReads: called with any bytes and any number that hold together at most 1048576 values and letters, the law answers true, and the bytes read afterwards as they read before. -/
import Derived.Test.YtpkcbdhjnnnkbaaGreatMDeltaReads2
import Derived.Test.YtpkcbdhjnnnkbaaGreatProg
import Derived.KernelRfl
import Derived.Laws.BitsLemmas
import Derived.Scope
import Derived.Laws.Externs
import Derived.Lib.Bytealg
/- The table of types: written by tab.py. -/
set_option maxRecDepth 100000
namespace Go.Proofs.YtpkcbdhjnnnkbaaGreat.Abs
open Go

def tl : List (Nat × TI) := [
  (1, { k := .fn, sz := 1, bys := 8, z := some [.nilk 1] }),
  (2, { k := .int .i64, sz := 1, bys := 8, z := some [.int .i64 0] }),
  (3, { k := .int .i64, sz := 1, bys := 8, z := some [.int .i64 0] }),
  (4, { k := .bool, sz := 1, bys := 1, z := some [.bool false] }),
  (5, { k := .int .u8, sz := 1, bys := 1, z := some [.int .u8 0] }),
  (6, { k := .int .u8, sz := 1, bys := 1, z := some [.int .u8 0] }),
  (7, { k := .struct [(0, 2), (1, 3), (2, 4), (3, 6)], sz := 4, bys := 24, z := some [.int .i64 0, .int .i64 0, .bool false, .int .u8 0] }),
  (8, { k := .struct [(0, 2), (1, 3), (2, 4), (3, 6)], sz := 4, bys := 24, z := some [.int .i64 0, .int .i64 0, .bool false, .int .u8 0] }),
  (9, { k := .str, sz := 1, bys := 16, z := some [.str []] }),
  (10, { k := .str, sz := 1, bys := 16, z := some [.str []] }),
  (11, { k := .str, sz := 1, bys := 16, z := some [.str []] }),
  (12, { k := .int .u64, sz := 1, bys := 8, z := some [.int .u64 0] }),
  (13, { k := .struct [(0, 9), (1, 12)], sz := 2, bys := 24, z := some [.str [], .int .u64 0] }),
  (14, { k := .struct [(0, 9), (1, 12)], sz := 2, bys := 24, z := some [.str [], .int .u64 0] }),
  (15, { k := .ptr 174, sz := 1, bys := 8, z := some [.nilp] }),
  (16, { k := .ptr 177, sz := 1, bys := 8, z := some [.nilp] }),
  (17, { k := .ptr 185, sz := 1, bys := 8, z := some [.nilp] }),
  (18, { k := .struct [(0, 17)], sz := 1, bys := 8, z := some [.nilp] }),
  (19, { k := .struct [(0, 17)], sz := 1, bys := 8, z := some [.nilp] }),
  (21, { k := .int .i32, sz := 1, bys := 4, z := some [.int .i32 0] }),
  (22, { k := .slice 9, sz := 1, bys := 24, z := some [.nil] }),
  (23, { k := .struct [(0, 9), (1, 22), (2, 3)], sz := 3, bys := 48, z := some [.str [], .nil, .int .i64 0] }),
  (24, { k := .struct [(0, 9), (1, 22), (2, 3)], sz := 3, bys := 48, z := some [.str [], .nil, .int .i64 0] }),
  (25, { k := .slice 27, sz := 1, bys := 24, z := some [.nil] }),
  (26, { k := .struct [(0, 3), (1, 3), (2, 9), (3, 25), (4, 22)], sz := 5, bys := 80, z := some [.int .i64 0, .int .i64 0, .str [], .nil, .nil] }),
  (27, { k := .struct [(0, 3), (1, 3), (2, 9), (3, 25), (4, 22)], sz := 5, bys := 80, z := some [.int .i64 0, .int .i64 0, .str [], .nil, .nil] }),
  (28, { k := .slice 83, sz := 1, bys := 24, z := some [.nil] }),
  (29, { k := .struct [(0, 3), (1, 3), (2, 9), (3, 9), (4, 27), (9, 27), (14, 28), (15, 3), (16, 3)], sz := 17, bys := 248, z := some [.int .i64 0, .int .i64 0, .str [], .str [], .int .i64 0, .int .i64 0, .str [], .nil, .nil, .int .i64 0, .int .i64 0, .str [], .nil, .nil, .nil, .int .i64 0, .int .i64 0] }),
  (30, { k := .struct [(0, 3), (1, 3), (2, 9), (3, 9), (4, 27), (9, 27), (14, 28), (15, 3), (16, 3)], sz := 17, bys := 248, z := some [.int .i64 0, .int .i64 0, .str [], .str [], .int .i64 0, .int .i64 0, .str [], .nil, .nil, .int .i64 0, .int .i64 0, .str [], .nil, .nil, .nil, .int .i64 0, .int .i64 0] }),
  (31, { k := .fn, sz := 1, bys := 8, z := some [.nilk 1] }),
  (32, { k := .fn, sz := 1, bys := 8, z := some [.nilk 1] }),
  (33, { k := .fn, sz := 1, bys := 8, z := some [.nilk 1] }),
  (34, { k := .slice 30, sz := 1, bys := 24, z := some [.nil] }),
  (35, { k := .fn, sz := 1, bys := 8, z := some [.nilk 1] }),
  (36, { k := .fn, sz := 1, bys := 8, z := some [.nilk 1] }),
  (37, { k := .slice 3, sz := 1, bys := 24, z := some [.nil] }),
  (38, { k := .fn, sz := 1, bys := 8, z := some [.nilk 1] }),
  (39, { k := .fn, sz := 1, bys := 8, z := some [.nilk 1] }),
  (40, { k := .fn, sz := 1, bys := 8, z := some [.nilk 1] }),
  (41, { k := .fn, sz := 1, bys := 8, z := some [.nilk 1] }),
  (42, { k := .fn, sz := 1, bys := 8, z := some [.nilk 1] }),
  (43, { k := .fn, sz := 1, bys := 8, z := some [.nilk 1] }),
  (44, { k := .int .i64, sz := 1, bys := 8, z := some [.int .i64 0] }),
  (46, { k := .fn, sz := 1, bys := 8, z := some [.nilk 1] }),
  (47, { k := .fn, sz := 1, bys := 8, z := some [.nilk 1] }),
  (48, { k := .fn, sz := 1, bys := 8, z := some [.nilk 1] }),
  (50, { k := .fn, sz := 1, bys := 8, z := some [.nilk 1] }),
  (51, { k := .fn, sz := 1, bys := 8, z := some [.nilk 1] }),
  (52, { k := .slice 5, sz := 1, bys := 24, z := some [.nil] }),
  (53, { k := .fn, sz := 1, bys := 8, z := some [.nilk 1] }),
  (54, { k := .fn, sz := 1, bys := 8, z := some [.nilk 1] }),
  (55, { k := .ptr 102, sz := 1, bys := 8, z := some [.nilp] }),
  (56, { k := .fn, sz := 1, bys := 8, z := some [.nilk 1] }),
  (57, { k := .fn, sz := 1, bys := 8, z := some [.nilk 1] }),
  (58, { k := .fn, sz := 1, bys := 8, z := some [.nilk 1] }),
  (59, { k := .fn, sz := 1, bys := 8, z := some [.nilk 1] }),
  (60, { k := .fn, sz := 1, bys := 8, z := some [.nilk 1] }),
  (61, { k := .ptr 63, sz := 1, bys := 8, z := some [.nilp] }),
  (62, { k := .struct [(0, 52), (1, 4)], sz := 2, bys := 32, z := some [.nil, .bool false] }),
  (63, { k := .struct [(0, 52), (1, 4)], sz := 2, bys := 32, z := some [.nil, .bool false] }),
  (64, { k := .fn, sz := 1, bys := 8, z := some [.nilk 1] }),
  (65, { k := .fn, sz := 1, bys := 8, z := some [.nilk 1] }),
  (66, { k := .fn, sz := 1, bys := 8, z := some [.nilk 1] }),
  (67, { k := .fn, sz := 1, bys := 8, z := some [.nilk 1] }),
  (68, { k := .fn, sz := 1, bys := 8, z := some [.nilk 1] }),
  (69, { k := .fn, sz := 1, bys := 8, z := some [.nilk 1] }),
  (70, { k := .fn, sz := 1, bys := 8, z := some [.nilk 1] }),
  (72, { k := .fn, sz := 1, bys := 8, z := some [.nilk 1] }),
  (74, { k := .fn, sz := 1, bys := 8, z := some [.nilk 1] }),
  (75, { k := .fn, sz := 1, bys := 8, z := some [.nilk 1] }),
  (76, { k := .fn, sz := 1, bys := 8, z := some [.nilk 1] }),
  (77, { k := .fn, sz := 1, bys := 8, z := some [.nilk 1] }),
  (78, { k := .fn, sz := 1, bys := 8, z := some [.nilk 1] }),
  (79, { k := .fn, sz := 1, bys := 8, z := some [.nilk 1] }),
  (80, { k := .fn, sz := 1, bys := 8, z := some [.nilk 1] }),
  (81, { k := .fn, sz := 1, bys := 8, z := some [.nilk 1] }),
  (82, { k := .struct [(0, 3), (1, 22), (2, 27), (7, 3)], sz := 8, bys := 120, z := some [.int .i64 0, .nil, .int .i64 0, .int .i64 0, .str [], .nil, .nil, .int .i64 0] }),
  (83, { k := .struct [(0, 3), (1, 22), (2, 27), (7, 3)], sz := 8, bys := 120, z := some [.int .i64 0, .nil, .int .i64 0, .int .i64 0, .str [], .nil, .nil, .int .i64 0] }),
  (85, { k := .fn, sz := 1, bys := 8, z := some [.nilk 1] }),
  (86, { k := .fn, sz := 1, bys := 8, z := some [.nilk 1] }),
  (87, { k := .fn, sz := 1, bys := 8, z := some [.nilk 1] }),
  (88, { k := .fn, sz := 1, bys := 8, z := some [.nilk 1] }),
  (89, { k := .fn, sz := 1, bys := 8, z := some [.nilk 1] }),
  (90, { k := .fn, sz := 1, bys := 8, z := some [.nilk 1] }),
  (91, { k := .fn, sz := 1, bys := 8, z := some [.nilk 1] }),
  (92, { k := .fn, sz := 1, bys := 8, z := some [.nilk 1] }),
  (93, { k := .fn, sz := 1, bys := 8, z := some [.nilk 1] }),
  (94, { k := .fn, sz := 1, bys := 8, z := some [.nilk 1] }),
  (95, { k := .fn, sz := 1, bys := 8, z := some [.nilk 1] }),
  (96, { k := .fn, sz := 1, bys := 8, z := some [.nilk 1] }),
  (97, { k := .fn, sz := 1, bys := 8, z := some [.nilk 1] }),
  (98, { k := .fn, sz := 1, bys := 8, z := some [.nilk 1] }),
  (99, { k := .fn, sz := 1, bys := 8, z := some [.nilk 1] }),
  (100, { k := .fn, sz := 1, bys := 8, z := some [.nilk 1] }),
  (101, { k := .struct [(0, 52), (1, 4)], sz := 2, bys := 32, z := some [.nil, .bool false] }),
  (102, { k := .struct [(0, 52), (1, 4)], sz := 2, bys := 32, z := some [.nil, .bool false] }),
  (103, { k := .fn, sz := 1, bys := 8, z := some [.nilk 1] }),
  (104, { k := .fn, sz := 1, bys := 8, z := some [.nilk 1] }),
  (105, { k := .fn, sz := 1, bys := 8, z := some [.nilk 1] }),
  (106, { k := .fn, sz := 1, bys := 8, z := some [.nilk 1] }),
  (107, { k := .fn, sz := 1, bys := 8, z := some [.nilk 1] }),
  (108, { k := .fn, sz := 1, bys := 8, z := some [.nilk 1] }),
  (109, { k := .fn, sz := 1, bys := 8, z := some [.nilk 1] }),
  (110, { k := .fn, sz := 1, bys := 8, z := some [.nilk 1] }),
  (111, { k := .fn, sz := 1, bys := 8, z := some [.nilk 1] }),
  (112, { k := .fn, sz := 1, bys := 8, z := some [.nilk 1] }),
  (113, { k := .fn, sz := 1, bys := 8, z := some [.nilk 1] }),
  (114, { k := .fn, sz := 1, bys := 8, z := some [.nilk 1] }),
  (115, { k := .fn, sz := 1, bys := 8, z := some [.nilk 1] }),
  (116, { k := .fn, sz := 1, bys := 8, z := some [.nilk 1] }),
  (117, { k := .fn, sz := 1, bys := 8, z := some [.nilk 1] }),
  (118, { k := .fn, sz := 1, bys := 8, z := some [.nilk 1] }),
  (119, { k := .fn, sz := 1, bys := 8, z := some [.nilk 1] }),
  (120, { k := .fn, sz := 1, bys := 8, z := some [.nilk 1] }),
  (121, { k := .fn, sz := 1, bys := 8, z := some [.nilk 1] }),
  (122, { k := .fn, sz := 1, bys := 8, z := some [.nilk 1] }),
  (123, { k := .fn, sz := 1, bys := 8, z := some [.nilk 1] }),
  (124, { k := .fn, sz := 1, bys := 8, z := some [.nilk 1] }),
  (125, { k := .fn, sz := 1, bys := 8, z := some [.nilk 1] }),
  (126, { k := .int .u64, sz := 1, bys := 8, z := some [.int .u64 0] }),
  (127, { k := .fn, sz := 1, bys := 8, z := some [.nilk 1] }),
  (129, { k := .fn, sz := 1, bys := 8, z := some [.nilk 1] }),
  (130, { k := .fn, sz := 1, bys := 8, z := some [.nilk 1] }),
  (131, { k := .fn, sz := 1, bys := 8, z := some [.nilk 1] }),
  (132, { k := .fn, sz := 1, bys := 8, z := some [.nilk 1] }),
  (133, { k := .fn, sz := 1, bys := 8, z := some [.nilk 1] }),
  (134, { k := .fn, sz := 1, bys := 8, z := some [.nilk 1] }),
  (135, { k := .fn, sz := 1, bys := 8, z := some [.nilk 1] }),
  (136, { k := .fn, sz := 1, bys := 8, z := some [.nilk 1] }),
  (137, { k := .fn, sz := 1, bys := 8, z := some [.nilk 1] }),
  (138, { k := .map 9 4, sz := 1, bys := 8, z := some [.nilk 0] }),
  (139, { k := .fn, sz := 1, bys := 8, z := some [.nilk 1] }),
  (140, { k := .fn, sz := 1, bys := 8, z := some [.nilk 1] }),
  (141, { k := .fn, sz := 1, bys := 8, z := some [.nilk 1] }),
  (142, { k := .fn, sz := 1, bys := 8, z := some [.nilk 1] }),
  (143, { k := .int .u64, sz := 1, bys := 8, z := some [.int .u64 0] }),
  (144, { k := .fn, sz := 1, bys := 8, z := some [.nilk 1] }),
  (145, { k := .fn, sz := 1, bys := 8, z := some [.nilk 1] }),
  (146, { k := .fn, sz := 1, bys := 8, z := some [.nilk 1] }),
  (147, { k := .fn, sz := 1, bys := 8, z := some [.nilk 1] }),
  (148, { k := .arr 256 4, sz := 256, bys := 256, z := some (List.replicate 256 (.bool false)) }),
  (149, { k := .arr 256 4, sz := 256, bys := 256, z := some (List.replicate 256 (.bool false)) }),
  (151, { k := .fn, sz := 1, bys := 8, z := some [.nilk 1] }),
  (152, { k := .fn, sz := 1, bys := 8, z := some [.nilk 1] }),
  (153, { k := .fn, sz := 1, bys := 8, z := some [.nilk 1] }),
  (154, { k := .fn, sz := 1, bys := 8, z := some [.nilk 1] }),
  (156, { k := .fn, sz := 1, bys := 8, z := some [.nilk 1] }),
  (157, { k := .fn, sz := 1, bys := 8, z := some [.nilk 1] }),
  (158, { k := .fn, sz := 1, bys := 8, z := some [.nilk 1] }),
  (159, { k := .fn, sz := 1, bys := 8, z := some [.nilk 1] }),
  (160, { k := .fn, sz := 1, bys := 8, z := some [.nilk 1] }),
  (161, { k := .fn, sz := 1, bys := 8, z := some [.nilk 1] }),
  (162, { k := .fn, sz := 1, bys := 8, z := some [.nilk 1] }),
  (163, { k := .fn, sz := 1, bys := 8, z := some [.nilk 1] }),
  (164, { k := .fn, sz := 1, bys := 8, z := some [.nilk 1] }),
  (165, { k := .fn, sz := 1, bys := 8, z := some [.nilk 1] }),
  (166, { k := .fn, sz := 1, bys := 8, z := some [.nilk 1] }),
  (167, { k := .ptr 149, sz := 1, bys := 8, z := some [.nilp] }),
  (168, { k := .fn, sz := 1, bys := 8, z := some [.nilk 1] }),
  (169, { k := .int .u32, sz := 1, bys := 4, z := some [.int .u32 0] }),
  (171, { k := .fn, sz := 1, bys := 8, z := some [.nilk 1] }),
  (172, { k := .fn, sz := 1, bys := 8, z := some [.nilk 1] }),
  (173, { k := .struct [(0, 17), (1, 17), (2, 17), (3, 9)], sz := 4, bys := 40, z := some [.nilp, .nilp, .nilp, .str []] }),
  (174, { k := .struct [(0, 17), (1, 17), (2, 17), (3, 9)], sz := 4, bys := 40, z := some [.nilp, .nilp, .nilp, .str []] }),
  (175, { k := .arr 0 16, sz := 0, bys := 0, z := some (List.replicate 0 (.nilp)) }),
  (176, { k := .struct [(0, 175)], sz := 0, bys := 0, z := some [] }),
  (177, { k := .struct [(0, 175)], sz := 0, bys := 0, z := some [] }),
  (178, { k := .int .u8, sz := 1, bys := 1, z := some [.int .u8 0] }),
  (179, { k := .int .u8, sz := 1, bys := 1, z := some [.int .u8 0] }),
  (180, { k := .fn, sz := 1, bys := 8, z := some [.nilk 1] }),
  (181, { k := .ptr 5, sz := 1, bys := 8, z := some [.nilp] }),
  (182, { k := .int .i32, sz := 1, bys := 4, z := some [.int .i32 0] }),
  (183, { k := .int .i32, sz := 1, bys := 4, z := some [.int .i32 0] }),
  (184, { k := .struct [(0, 12), (1, 12), (2, 169), (3, 178), (4, 5), (5, 5), (6, 179), (7, 180), (8, 181), (9, 182), (10, 183)], sz := 11, bys := 48, z := some [.int .u64 0, .int .u64 0, .int .u32 0, .int .u8 0, .int .u8 0, .int .u8 0, .int .u8 0, .nilk 1, .nilp, .int .i32 0, .int .i32 0] }),
  (185, { k := .struct [(0, 12), (1, 12), (2, 169), (3, 178), (4, 5), (5, 5), (6, 179), (7, 180), (8, 181), (9, 182), (10, 183)], sz := 11, bys := 48, z := some [.int .u64 0, .int .u64 0, .int .u32 0, .int .u8 0, .int .u8 0, .int .u8 0, .int .u8 0, .nilk 1, .nilp, .int .i32 0, .int .i32 0] })]
def Θ : Tab := fun t => (tl.find? fun p => Nat.beq p.1 t).map (·.2)
theorem th3 : Θ 3 = some { k := .int .i64, sz := 1, bys := 8, z := some [.int .i64 0] } := rfl
theorem th4 : Θ 4 = some { k := .bool, sz := 1, bys := 1, z := some [.bool false] } := rfl
theorem th5 : Θ 5 = some { k := .int .u8, sz := 1, bys := 1, z := some [.int .u8 0] } := rfl
theorem th9 : Θ 9 = some { k := .str, sz := 1, bys := 16, z := some [.str []] } := rfl
theorem th22 : Θ 22 = some { k := .slice 9, sz := 1, bys := 24, z := some [.nil] } := rfl
theorem th25 : Θ 25 = some { k := .slice 27, sz := 1, bys := 24, z := some [.nil] } := rfl
theorem th27 : Θ 27 = some { k := .struct [(0, 3), (1, 3), (2, 9), (3, 25), (4, 22)], sz := 5, bys := 80, z := some [.int .i64 0, .int .i64 0, .str [], .nil, .nil] } := rfl
theorem th28 : Θ 28 = some { k := .slice 83, sz := 1, bys := 24, z := some [.nil] } := rfl
theorem th52 : Θ 52 = some { k := .slice 5, sz := 1, bys := 24, z := some [.nil] } := rfl
theorem th55 : Θ 55 = some { k := .ptr 102, sz := 1, bys := 8, z := some [.nilp] } := rfl
theorem th63 : Θ 63 = some { k := .struct [(0, 52), (1, 4)], sz := 2, bys := 32, z := some [.nil, .bool false] } := rfl
theorem th83 : Θ 83 = some { k := .struct [(0, 3), (1, 22), (2, 27), (7, 3)], sz := 8, bys := 120, z := some [.int .i64 0, .nil, .int .i64 0, .int .i64 0, .str [], .nil, .nil, .int .i64 0] } := rfl
theorem th102 : Θ 102 = some { k := .struct [(0, 52), (1, 4)], sz := 2, bys := 32, z := some [.nil, .bool false] } := rfl
theorem th126 : Θ 126 = some { k := .int .u64, sz := 1, bys := 8, z := some [.int .u64 0] } := rfl
theorem th138 : Θ 138 = some { k := .map 9 4, sz := 1, bys := 8, z := some [.nilk 0] } := rfl
theorem tab_of {P : Program} : ∀ (l : List (Nat × TI)), (∀ p ∈ l, TOk P p.1 p.2) → TabOk P (fun t => (l.find? fun p => Nat.beq p.1 t).map (·.2)) := by
  intro l h t i hi
  obtain ⟨p, hp, rfl⟩ := Option.map_eq_some_iff.1 hi
  have h1 := List.mem_of_find?_eq_some hp
  have h2 := List.find?_some hp
  have h3 : p.1 = t := Nat.eq_of_beq_eq_true h2
  rw [← h3]
  exact h p h1
theorem tok1 : TOk Tryz.prog 1 { k := .fn, sz := 1, bys := 8, z := some [.nilk 1] } := ⟨by kernel_rfl, by kernel_rfl, fun l h => by injection h with h; subst h; exact ⟨by kernel_rfl, by kernel_rfl, by decide⟩, fun h => by cases h⟩
theorem tok2 : TOk Tryz.prog 2 { k := .int .i64, sz := 1, bys := 8, z := some [.int .i64 0] } := ⟨by kernel_rfl, by kernel_rfl, fun l h => by injection h with h; subst h; exact ⟨by kernel_rfl, by kernel_rfl, by decide⟩, fun h => by cases h⟩
theorem tok3 : TOk Tryz.prog 3 { k := .int .i64, sz := 1, bys := 8, z := some [.int .i64 0] } := ⟨by kernel_rfl, by kernel_rfl, fun l h => by injection h with h; subst h; exact ⟨by kernel_rfl, by kernel_rfl, by decide⟩, fun h => by cases h⟩
theorem tok4 : TOk Tryz.prog 4 { k := .bool, sz := 1, bys := 1, z := some [.bool false] } := ⟨by kernel_rfl, by kernel_rfl, fun l h => by injection h with h; subst h; exact ⟨by kernel_rfl, by kernel_rfl, by decide⟩, fun h => by cases h⟩
theorem tok5 : TOk Tryz.prog 5 { k := .int .u8, sz := 1, bys := 1, z := some [.int .u8 0] } := ⟨by kernel_rfl, by kernel_rfl, fun l h => by injection h with h; subst h; exact ⟨by kernel_rfl, by kernel_rfl, by decide⟩, fun h => by cases h⟩
theorem tok6 : TOk Tryz.prog 6 { k := .int .u8, sz := 1, bys := 1, z := some [.int .u8 0] } := ⟨by kernel_rfl, by kernel_rfl, fun l h => by injection h with h; subst h; exact ⟨by kernel_rfl, by kernel_rfl, by decide⟩, fun h => by cases h⟩
theorem tok7 : TOk Tryz.prog 7 { k := .struct [(0, 2), (1, 3), (2, 4), (3, 6)], sz := 4, bys := 24, z := some [.int .i64 0, .int .i64 0, .bool false, .int .u8 0] } := ⟨by kernel_rfl, by kernel_rfl, fun l h => by injection h with h; subst h; exact ⟨by kernel_rfl, by kernel_rfl, by decide⟩, fun h => by cases h⟩
theorem tok8 : TOk Tryz.prog 8 { k := .struct [(0, 2), (1, 3), (2, 4), (3, 6)], sz := 4, bys := 24, z := some [.int .i64 0, .int .i64 0, .bool false, .int .u8 0] } := ⟨by kernel_rfl, by kernel_rfl, fun l h => by injection h with h; subst h; exact ⟨by kernel_rfl, by kernel_rfl, by decide⟩, fun h => by cases h⟩
theorem tok9 : TOk Tryz.prog 9 { k := .str, sz := 1, bys := 16, z := some [.str []] } := ⟨by kernel_rfl, by kernel_rfl, fun l h => by injection h with h; subst h; exact ⟨by kernel_rfl, by kernel_rfl, by decide⟩, fun h => by cases h⟩
theorem tok10 : TOk Tryz.prog 10 { k := .str, sz := 1, bys := 16, z := some [.str []] } := ⟨by kernel_rfl, by kernel_rfl, fun l h => by injection h with h; subst h; exact ⟨by kernel_rfl, by kernel_rfl, by decide⟩, fun h => by cases h⟩
theorem tok11 : TOk Tryz.prog 11 { k := .str, sz := 1, bys := 16, z := some [.str []] } := ⟨by kernel_rfl, by kernel_rfl, fun l h => by injection h with h; subst h; exact ⟨by kernel_rfl, by kernel_rfl, by decide⟩, fun h => by cases h⟩
theorem tok12 : TOk Tryz.prog 12 { k := .int .u64, sz := 1, bys := 8, z := some [.int .u64 0] } := ⟨by kernel_rfl, by kernel_rfl, fun l h => by injection h with h; subst h; exact ⟨by kernel_rfl, by kernel_rfl, by decide⟩, fun h => by cases h⟩
theorem tok13 : TOk Tryz.prog 13 { k := .struct [(0, 9), (1, 12)], sz := 2, bys := 24, z := some [.str [], .int .u64 0] } := ⟨by kernel_rfl, by kernel_rfl, fun l h => by injection h with h; subst h; exact ⟨by kernel_rfl, by kernel_rfl, by decide⟩, fun h => by cases h⟩
theorem tok14 : TOk Tryz.prog 14 { k := .struct [(0, 9), (1, 12)], sz := 2, bys := 24, z := some [.str [], .int .u64 0] } := ⟨by kernel_rfl, by kernel_rfl, fun l h => by injection h with h; subst h; exact ⟨by kernel_rfl, by kernel_rfl, by decide⟩, fun h => by cases h⟩
theorem tok15 : TOk Tryz.prog 15 { k := .ptr 174, sz := 1, bys := 8, z := some [.nilp] } := ⟨by kernel_rfl, by kernel_rfl, fun l h => by injection h with h; subst h; exact ⟨by kernel_rfl, by kernel_rfl, by decide⟩, fun h => by cases h⟩
theorem tok16 : TOk Tryz.prog 16 { k := .ptr 177, sz := 1, bys := 8, z := some [.nilp] } := ⟨by kernel_rfl, by kernel_rfl, fun l h => by injection h with h; subst h; exact ⟨by kernel_rfl, by kernel_rfl, by decide⟩, fun h => by cases h⟩
theorem tok17 : TOk Tryz.prog 17 { k := .ptr 185, sz := 1, bys := 8, z := some [.nilp] } := ⟨by kernel_rfl, by kernel_rfl, fun l h => by injection h with h; subst h; exact ⟨by kernel_rfl, by kernel_rfl, by decide⟩, fun h => by cases h⟩
theorem tok18 : TOk Tryz.prog 18 { k := .struct [(0, 17)], sz := 1, bys := 8, z := some [.nilp] } := ⟨by kernel_rfl, by kernel_rfl, fun l h => by injection h with h; subst h; exact ⟨by kernel_rfl, by kernel_rfl, by decide⟩, fun h => by cases h⟩
theorem tok19 : TOk Tryz.prog 19 { k := .struct [(0, 17)], sz := 1, bys := 8, z := some [.nilp] } := ⟨by kernel_rfl, by kernel_rfl, fun l h => by injection h with h; subst h; exact ⟨by kernel_rfl, by kernel_rfl, by decide⟩, fun h => by cases h⟩
theorem tok21 : TOk Tryz.prog 21 { k := .int .i32, sz := 1, bys := 4, z := some [.int .i32 0] } := ⟨by kernel_rfl, by kernel_rfl, fun l h => by injection h with h; subst h; exact ⟨by kernel_rfl, by kernel_rfl, by decide⟩, fun h => by cases h⟩
theorem tok22 : TOk Tryz.prog 22 { k := .slice 9, sz := 1, bys := 24, z := some [.nil] } := ⟨by kernel_rfl, by kernel_rfl, fun l h => by injection h with h; subst h; exact ⟨by kernel_rfl, by kernel_rfl, by decide⟩, fun h => by cases h⟩
theorem tok23 : TOk Tryz.prog 23 { k := .struct [(0, 9), (1, 22), (2, 3)], sz := 3, bys := 48, z := some [.str [], .nil, .int .i64 0] } := ⟨by kernel_rfl, by kernel_rfl, fun l h => by injection h with h; subst h; exact ⟨by kernel_rfl, by kernel_rfl, by decide⟩, fun h => by cases h⟩
theorem tok24 : TOk Tryz.prog 24 { k := .struct [(0, 9), (1, 22), (2, 3)], sz := 3, bys := 48, z := some [.str [], .nil, .int .i64 0] } := ⟨by kernel_rfl, by kernel_rfl, fun l h => by injection h with h; subst h; exact ⟨by kernel_rfl, by kernel_rfl, by decide⟩, fun h => by cases h⟩
theorem tok25 : TOk Tryz.prog 25 { k := .slice 27, sz := 1, bys := 24, z := some [.nil] } := ⟨by kernel_rfl, by kernel_rfl, fun l h => by injection h with h; subst h; exact ⟨by kernel_rfl, by kernel_rfl, by decide⟩, fun h => by cases h⟩
theorem tok26 : TOk Tryz.prog 26 { k := .struct [(0, 3), (1, 3), (2, 9), (3, 25), (4, 22)], sz := 5, bys := 80, z := some [.int .i64 0, .int .i64 0, .str [], .nil, .nil] } := ⟨by kernel_rfl, by kernel_rfl, fun l h => by injection h with h; subst h; exact ⟨by kernel_rfl, by kernel_rfl, by decide⟩, fun h => by cases h⟩
theorem tok27 : TOk Tryz.prog 27 { k := .struct [(0, 3), (1, 3), (2, 9), (3, 25), (4, 22)], sz := 5, bys := 80, z := some [.int .i64 0, .int .i64 0, .str [], .nil, .nil] } := ⟨by kernel_rfl, by kernel_rfl, fun l h => by injection h with h; subst h; exact ⟨by kernel_rfl, by kernel_rfl, by decide⟩, fun h => by cases h⟩
theorem tok28 : TOk Tryz.prog 28 { k := .slice 83, sz := 1, bys := 24, z := some [.nil] } := ⟨by kernel_rfl, by kernel_rfl, fun l h => by injection h with h; subst h; exact ⟨by kernel_rfl, by kernel_rfl, by decide⟩, fun h => by cases h⟩
theorem tok29 : TOk Tryz.prog 29 { k := .struct [(0, 3), (1, 3), (2, 9), (3, 9), (4, 27), (9, 27), (14, 28), (15, 3), (16, 3)], sz := 17, bys := 248, z := some [.int .i64 0, .int .i64 0, .str [], .str [], .int .i64 0, .int .i64 0, .str [], .nil, .nil, .int .i64 0, .int .i64 0, .str [], .nil, .nil, .nil, .int .i64 0, .int .i64 0] } := ⟨by kernel_rfl, by kernel_rfl, fun l h => by injection h with h; subst h; exact ⟨by kernel_rfl, by kernel_rfl, by decide⟩, fun h => by cases h⟩
theorem tok30 : TOk Tryz.prog 30 { k := .struct [(0, 3), (1, 3), (2, 9), (3, 9), (4, 27), (9, 27), (14, 28), (15, 3), (16, 3)], sz := 17, bys := 248, z := some [.int .i64 0, .int .i64 0, .str [], .str [], .int .i64 0, .int .i64 0, .str [], .nil, .nil, .int .i64 0, .int .i64 0, .str [], .nil, .nil, .nil, .int .i64 0, .int .i64 0] } := ⟨by kernel_rfl, by kernel_rfl, fun l h => by injection h with h; subst h; exact ⟨by kernel_rfl, by kernel_rfl, by decide⟩, fun h => by cases h⟩
theorem tok31 : TOk Tryz.prog 31 { k := .fn, sz := 1, bys := 8, z := some [.nilk 1] } := ⟨by kernel_rfl, by kernel_rfl, fun l h => by injection h with h; subst h; exact ⟨by kernel_rfl, by kernel_rfl, by decide⟩, fun h => by cases h⟩
theorem tok32 : TOk Tryz.prog 32 { k := .fn, sz := 1, bys := 8, z := some [.nilk 1] } := ⟨by kernel_rfl, by kernel_rfl, fun l h => by injection h with h; subst h; exact ⟨by kernel_rfl, by kernel_rfl, by decide⟩, fun h => by cases h⟩
theorem tok33 : TOk Tryz.prog 33 { k := .fn, sz := 1, bys := 8, z := some [.nilk 1] } := ⟨by kernel_rfl, by kernel_rfl, fun l h => by injection h with h; subst h; exact ⟨by kernel_rfl, by kernel_rfl, by decide⟩, fun h => by cases h⟩
theorem tok34 : TOk Tryz.prog 34 { k := .slice 30, sz := 1, bys := 24, z := some [.nil] } := ⟨by kernel_rfl, by kernel_rfl, fun l h => by injection h with h; subst h; exact ⟨by kernel_rfl, by kernel_rfl, by decide⟩, fun h => by cases h⟩
theorem tok35 : TOk Tryz.prog 35 { k := .fn, sz := 1, bys := 8, z := some [.nilk 1] } := ⟨by kernel_rfl, by kernel_rfl, fun l h => by injection h with h; subst h; exact ⟨by kernel_rfl, by kernel_rfl, by decide⟩, fun h => by cases h⟩
theorem tok36 : TOk Tryz.prog 36 { k := .fn, sz := 1, bys := 8, z := some [.nilk 1] } := ⟨by kernel_rfl, by kernel_rfl, fun l h => by injection h with h; subst h; exact ⟨by kernel_rfl, by kernel_rfl, by decide⟩, fun h => by cases h⟩
theorem tok37 : TOk Tryz.prog 37 { k := .slice 3, sz := 1, bys := 24, z := some [.nil] } := ⟨by kernel_rfl, by kernel_rfl, fun l h => by injection h with h; subst h; exact ⟨by kernel_rfl, by kernel_rfl, by decide⟩, fun h => by cases h⟩
theorem tok38 : TOk Tryz.prog 38 { k := .fn, sz := 1, bys := 8, z := some [.nilk 1] } := ⟨by kernel_rfl, by kernel_rfl, fun l h => by injection h with h; subst h; exact ⟨by kernel_rfl, by kernel_rfl, by decide⟩, fun h => by cases h⟩
theorem tok39 : TOk Tryz.prog 39 { k := .fn, sz := 1, bys := 8, z := some [.nilk 1] } := ⟨by kernel_rfl, by kernel_rfl, fun l h => by injection h with h; subst h; exact ⟨by kernel_rfl, by kernel_rfl, by decide⟩, fun h => by cases h⟩
theorem tok40 : TOk Tryz.prog 40 { k := .fn, sz := 1, bys := 8, z := some [.nilk 1] } := ⟨by kernel_rfl, by kernel_rfl, fun l h => by injection h with h; subst h; exact ⟨by kernel_rfl, by kernel_rfl, by decide⟩, fun h => by cases h⟩
theorem tok41 : TOk Tryz.prog 41 { k := .fn, sz := 1, bys := 8, z := some [.nilk 1] } := ⟨by kernel_rfl, by kernel_rfl, fun l h => by injection h with h; subst h; exact ⟨by kernel_rfl, by kernel_rfl, by decide⟩, fun h => by cases h⟩
theorem tok42 : TOk Tryz.prog 42 { k := .fn, sz := 1, bys := 8, z := some [.nilk 1] } := ⟨by kernel_rfl, by kernel_rfl, fun l h => by injection h with h; subst h; exact ⟨by kernel_rfl, by kernel_rfl, by decide⟩, fun h => by cases h⟩
theorem tok43 : TOk Tryz.prog 43 { k := .fn, sz := 1, bys := 8, z := some [.nilk 1] } := ⟨by kernel_rfl, by kernel_rfl, fun l h => by injection h with h; subst h; exact ⟨by kernel_rfl, by kernel_rfl, by decide⟩, fun h => by cases h⟩
theorem tok44 : TOk Tryz.prog 44 { k := .int .i64, sz := 1, bys := 8, z := some [.int .i64 0] } := ⟨by kernel_rfl, by kernel_rfl, fun l h => by injection h with h; subst h; exact ⟨by kernel_rfl, by kernel_rfl, by decide⟩, fun h => by cases h⟩
theorem tok46 : TOk Tryz.prog 46 { k := .fn, sz := 1, bys := 8, z := some [.nilk 1] } := ⟨by kernel_rfl, by kernel_rfl, fun l h => by injection h with h; subst h; exact ⟨by kernel_rfl, by kernel_rfl, by decide⟩, fun h => by cases h⟩
theorem tok47 : TOk Tryz.prog 47 { k := .fn, sz := 1, bys := 8, z := some [.nilk 1] } := ⟨by kernel_rfl, by kernel_rfl, fun l h => by injection h with h; subst h; exact ⟨by kernel_rfl, by kernel_rfl, by decide⟩, fun h => by cases h⟩
theorem tok48 : TOk Tryz.prog 48 { k := .fn, sz := 1, bys := 8, z := some [.nilk 1] } := ⟨by kernel_rfl, by kernel_rfl, fun l h => by injection h with h; subst h; exact ⟨by kernel_rfl, by kernel_rfl, by decide⟩, fun h => by cases h⟩
theorem tok50 : TOk Tryz.prog 50 { k := .fn, sz := 1, bys := 8, z := some [.nilk 1] } := ⟨by kernel_rfl, by kernel_rfl, fun l h => by injection h with h; subst h; exact ⟨by kernel_rfl, by kernel_rfl, by decide⟩, fun h => by cases h⟩
theorem tok51 : TOk Tryz.prog 51 { k := .fn, sz := 1, bys := 8, z := some [.nilk 1] } := ⟨by kernel_rfl, by kernel_rfl, fun l h => by injection h with h; subst h; exact ⟨by kernel_rfl, by kernel_rfl, by decide⟩, fun h => by cases h⟩
theorem tok52 : TOk Tryz.prog 52 { k := .slice 5, sz := 1, bys := 24, z := some [.nil] } := ⟨by kernel_rfl, by kernel_rfl, fun l h => by injection h with h; subst h; exact ⟨by kernel_rfl, by kernel_rfl, by decide⟩, fun h => by cases h⟩
theorem tok53 : TOk Tryz.prog 53 { k := .fn, sz := 1, bys := 8, z := some [.nilk 1] } := ⟨by kernel_rfl, by kernel_rfl, fun l h => by injection h with h; subst h; exact ⟨by kernel_rfl, by kernel_rfl, by decide⟩, fun h => by cases h⟩
theorem tok54 : TOk Tryz.prog 54 { k := .fn, sz := 1, bys := 8, z := some [.nilk 1] } := ⟨by kernel_rfl, by kernel_rfl, fun l h => by injection h with h; subst h; exact ⟨by kernel_rfl, by kernel_rfl, by decide⟩, fun h => by cases h⟩
theorem tok55 : TOk Tryz.prog 55 { k := .ptr 102, sz := 1, bys := 8, z := some [.nilp] } := ⟨by kernel_rfl, by kernel_rfl, fun l h => by injection h with h; subst h; exact ⟨by kernel_rfl, by kernel_rfl, by decide⟩, fun h => by cases h⟩
theorem tok56 : TOk Tryz.prog 56 { k := .fn, sz := 1, bys := 8, z := some [.nilk 1] } := ⟨by kernel_rfl, by kernel_rfl, fun l h => by injection h with h; subst h; exact ⟨by kernel_rfl, by kernel_rfl, by decide⟩, fun h => by cases h⟩
theorem tok57 : TOk Tryz.prog 57 { k := .fn, sz := 1, bys := 8, z := some [.nilk 1] } := ⟨by kernel_rfl, by kernel_rfl, fun l h => by injection h with h; subst h; exact ⟨by kernel_rfl, by kernel_rfl, by decide⟩, fun h => by cases h⟩
theorem tok58 : TOk Tryz.prog 58 { k := .fn, sz := 1, bys := 8, z := some [.nilk 1] } := ⟨by kernel_rfl, by kernel_rfl, fun l h => by injection h with h; subst h; exact ⟨by kernel_rfl, by kernel_rfl, by decide⟩, fun h => by cases h⟩
theorem tok59 : TOk Tryz.prog 59 { k := .fn, sz := 1, bys := 8, z := some [.nilk 1] } := ⟨by kernel_rfl, by kernel_rfl, fun l h => by injection h with h; subst h; exact ⟨by kernel_rfl, by kernel_rfl, by decide⟩, fun h => by cases h⟩
theorem tok60 : TOk Tryz.prog 60 { k := .fn, sz := 1, bys := 8, z := some [.nilk 1] } := ⟨by kernel_rfl, by kernel_rfl, fun l h => by injection h with h; subst h; exact ⟨by kernel_rfl, by kernel_rfl, by decide⟩, fun h => by cases h⟩
theorem tok61 : TOk Tryz.prog 61 { k := .ptr 63, sz := 1, bys := 8, z := some [.nilp] } := ⟨by kernel_rfl, by kernel_rfl, fun l h => by injection h with h; subst h; exact ⟨by kernel_rfl, by kernel_rfl, by decide⟩, fun h => by cases h⟩
theorem tok62 : TOk Tryz.prog 62 { k := .struct [(0, 52), (1, 4)], sz := 2, bys := 32, z := some [.nil, .bool false] } := ⟨by kernel_rfl, by kernel_rfl, fun l h => by injection h with h; subst h; exact ⟨by kernel_rfl, by kernel_rfl, by decide⟩, fun h => by cases h⟩
theorem tok63 : TOk Tryz.prog 63 { k := .struct [(0, 52), (1, 4)], sz := 2, bys := 32, z := some [.nil, .bool false] } := ⟨by kernel_rfl, by kernel_rfl, fun l h => by injection h with h; subst h; exact ⟨by kernel_rfl, by kernel_rfl, by decide⟩, fun h => by cases h⟩
theorem tok64 : TOk Tryz.prog 64 { k := .fn, sz := 1, bys := 8, z := some [.nilk 1] } := ⟨by kernel_rfl, by kernel_rfl, fun l h => by injection h with h; subst h; exact ⟨by kernel_rfl, by kernel_rfl, by decide⟩, fun h => by cases h⟩
theorem tok65 : TOk Tryz.prog 65 { k := .fn, sz := 1, bys := 8, z := some [.nilk 1] } := ⟨by kernel_rfl, by kernel_rfl, fun l h => by injection h with h; subst h; exact ⟨by kernel_rfl, by kernel_rfl, by decide⟩, fun h => by cases h⟩
theorem tok66 : TOk Tryz.prog 66 { k := .fn, sz := 1, bys := 8, z := some [.nilk 1] } := ⟨by kernel_rfl, by kernel_rfl, fun l h => by injection h with h; subst h; exact ⟨by kernel_rfl, by kernel_rfl, by decide⟩, fun h => by cases h⟩
theorem tok67 : TOk Tryz.prog 67 { k := .fn, sz := 1, bys := 8, z := some [.nilk 1] } := ⟨by kernel_rfl, by kernel_rfl, fun l h => by injection h with h; subst h; exact ⟨by kernel_rfl, by kernel_rfl, by decide⟩, fun h => by cases h⟩
theorem tok68 : TOk Tryz.prog 68 { k := .fn, sz := 1, bys := 8, z := some [.nilk 1] } := ⟨by kernel_rfl, by kernel_rfl, fun l h => by injection h with h; subst h; exact ⟨by kernel_rfl, by kernel_rfl, by decide⟩, fun h => by cases h⟩
theorem tok69 : TOk Tryz.prog 69 { k := .fn, sz := 1, bys := 8, z := some [.nilk 1] } := ⟨by kernel_rfl, by kernel_rfl, fun l h => by injection h with h; subst h; exact ⟨by kernel_rfl, by kernel_rfl, by decide⟩, fun h => by cases h⟩
theorem tok70 : TOk Tryz.prog 70 { k := .fn, sz := 1, bys := 8, z := some [.nilk 1] } := ⟨by kernel_rfl, by kernel_rfl, fun l h => by injection h with h; subst h; exact ⟨by kernel_rfl, by kernel_rfl, by decide⟩, fun h => by cases h⟩
theorem tok72 : TOk Tryz.prog 72 { k := .fn, sz := 1, bys := 8, z := some [.nilk 1] } := ⟨by kernel_rfl, by kernel_rfl, fun l h => by injection h with h; subst h; exact ⟨by kernel_rfl, by kernel_rfl, by decide⟩, fun h => by cases h⟩
theorem tok74 : TOk Tryz.prog 74 { k := .fn, sz := 1, bys := 8, z := some [.nilk 1] } := ⟨by kernel_rfl, by kernel_rfl, fun l h => by injection h with h; subst h; exact ⟨by kernel_rfl, by kernel_rfl, by decide⟩, fun h => by cases h⟩
theorem tok75 : TOk Tryz.prog 75 { k := .fn, sz := 1, bys := 8, z := some [.nilk 1] } := ⟨by kernel_rfl, by kernel_rfl, fun l h => by injection h with h; subst h; exact ⟨by kernel_rfl, by kernel_rfl, by decide⟩, fun h => by cases h⟩
theorem tok76 : TOk Tryz.prog 76 { k := .fn, sz := 1, bys := 8, z := some [.nilk 1] } := ⟨by kernel_rfl, by kernel_rfl, fun l h => by injection h with h; subst h; exact ⟨by kernel_rfl, by kernel_rfl, by decide⟩, fun h => by cases h⟩
theorem tok77 : TOk Tryz.prog 77 { k := .fn, sz := 1, bys := 8, z := some [.nilk 1] } := ⟨by kernel_rfl, by kernel_rfl, fun l h => by injection h with h; subst h; exact ⟨by kernel_rfl, by kernel_rfl, by decide⟩, fun h => by cases h⟩
theorem tok78 : TOk Tryz.prog 78 { k := .fn, sz := 1, bys := 8, z := some [.nilk 1] } := ⟨by kernel_rfl, by kernel_rfl, fun l h => by injection h with h; subst h; exact ⟨by kernel_rfl, by kernel_rfl, by decide⟩, fun h => by cases h⟩
theorem tok79 : TOk Tryz.prog 79 { k := .fn, sz := 1, bys := 8, z := some [.nilk 1] } := ⟨by kernel_rfl, by kernel_rfl, fun l h => by injection h with h; subst h; exact ⟨by kernel_rfl, by kernel_rfl, by decide⟩, fun h => by cases h⟩
theorem tok80 : TOk Tryz.prog 80 { k := .fn, sz := 1, bys := 8, z := some [.nilk 1] } := ⟨by kernel_rfl, by kernel_rfl, fun l h => by injection h with h; subst h; exact ⟨by kernel_rfl, by kernel_rfl, by decide⟩, fun h => by cases h⟩
theorem tok81 : TOk Tryz.prog 81 { k := .fn, sz := 1, bys := 8, z := some [.nilk 1] } := ⟨by kernel_rfl, by kernel_rfl, fun l h => by injection h with h; subst h; exact ⟨by kernel_rfl, by kernel_rfl, by decide⟩, fun h => by cases h⟩
theorem tok82 : TOk Tryz.prog 82 { k := .struct [(0, 3), (1, 22), (2, 27), (7, 3)], sz := 8, bys := 120, z := some [.int .i64 0, .nil, .int .i64 0, .int .i64 0, .str [], .nil, .nil, .int .i64 0] } := ⟨by kernel_rfl, by kernel_rfl, fun l h => by injection h with h; subst h; exact ⟨by kernel_rfl, by kernel_rfl, by decide⟩, fun h => by cases h⟩
theorem tok83 : TOk Tryz.prog 83 { k := .struct [(0, 3), (1, 22), (2, 27), (7, 3)], sz := 8, bys := 120, z := some [.int .i64 0, .nil, .int .i64 0, .int .i64 0, .str [], .nil, .nil, .int .i64 0] } := ⟨by kernel_rfl, by kernel_rfl, fun l h => by injection h with h; subst h; exact ⟨by kernel_rfl, by kernel_rfl, by decide⟩, fun h => by cases h⟩
theorem tok85 : TOk Tryz.prog 85 { k := .fn, sz := 1, bys := 8, z := some [.nilk 1] } := ⟨by kernel_rfl, by kernel_rfl, fun l h => by injection h with h; subst h; exact ⟨by kernel_rfl, by kernel_rfl, by decide⟩, fun h => by cases h⟩
theorem tok86 : TOk Tryz.prog 86 { k := .fn, sz := 1, bys := 8, z := some [.nilk 1] } := ⟨by kernel_rfl, by kernel_rfl, fun l h => by injection h with h; subst h; exact ⟨by kernel_rfl, by kernel_rfl, by decide⟩, fun h => by cases h⟩
theorem tok87 : TOk Tryz.prog 87 { k := .fn, sz := 1, bys := 8, z := some [.nilk 1] } := ⟨by kernel_rfl, by kernel_rfl, fun l h => by injection h with h; subst h; exact ⟨by kernel_rfl, by kernel_rfl, by decide⟩, fun h => by cases h⟩
theorem tok88 : TOk Tryz.prog 88 { k := .fn, sz := 1, bys := 8, z := some [.nilk 1] } := ⟨by kernel_rfl, by kernel_rfl, fun l h => by injection h with h; subst h; exact ⟨by kernel_rfl, by kernel_rfl, by decide⟩, fun h => by cases h⟩
theorem tok89 : TOk Tryz.prog 89 { k := .fn, sz := 1, bys := 8, z := some [.nilk 1] } := ⟨by kernel_rfl, by kernel_rfl, fun l h => by injection h with h; subst h; exact ⟨by kernel_rfl, by kernel_rfl, by decide⟩, fun h => by cases h⟩
theorem tok90 : TOk Tryz.prog 90 { k := .fn, sz := 1, bys := 8, z := some [.nilk 1] } := ⟨by kernel_rfl, by kernel_rfl, fun l h => by injection h with h; subst h; exact ⟨by kernel_rfl, by kernel_rfl, by decide⟩, fun h => by cases h⟩
theorem tok91 : TOk Tryz.prog 91 { k := .fn, sz := 1, bys := 8, z := some [.nilk 1] } := ⟨by kernel_rfl, by kernel_rfl, fun l h => by injection h with h; subst h; exact ⟨by kernel_rfl, by kernel_rfl, by decide⟩, fun h => by cases h⟩
theorem tok92 : TOk Tryz.prog 92 { k := .fn, sz := 1, bys := 8, z := some [.nilk 1] } := ⟨by kernel_rfl, by kernel_rfl, fun l h => by injection h with h; subst h; exact ⟨by kernel_rfl, by kernel_rfl, by decide⟩, fun h => by cases h⟩
theorem tok93 : TOk Tryz.prog 93 { k := .fn, sz := 1, bys := 8, z := some [.nilk 1] } := ⟨by kernel_rfl, by kernel_rfl, fun l h => by injection h with h; subst h; exact ⟨by kernel_rfl, by kernel_rfl, by decide⟩, fun h => by cases h⟩
theorem tok94 : TOk Tryz.prog 94 { k := .fn, sz := 1, bys := 8, z := some [.nilk 1] } := ⟨by kernel_rfl, by kernel_rfl, fun l h => by injection h with h; subst h; exact ⟨by kernel_rfl, by kernel_rfl, by decide⟩, fun h => by cases h⟩
theorem tok95 : TOk Tryz.prog 95 { k := .fn, sz := 1, bys := 8, z := some [.nilk 1] } := ⟨by kernel_rfl, by kernel_rfl, fun l h => by injection h with h; subst h; exact ⟨by kernel_rfl, by kernel_rfl, by decide⟩, fun h => by cases h⟩
theorem tok96 : TOk Tryz.prog 96 { k := .fn, sz := 1, bys := 8, z := some [.nilk 1] } := ⟨by kernel_rfl, by kernel_rfl, fun l h => by injection h with h; subst h; exact ⟨by kernel_rfl, by kernel_rfl, by decide⟩, fun h => by cases h⟩
theorem tok97 : TOk Tryz.prog 97 { k := .fn, sz := 1, bys := 8, z := some [.nilk 1] } := ⟨by kernel_rfl, by kernel_rfl, fun l h => by injection h with h; subst h; exact ⟨by kernel_rfl, by kernel_rfl, by decide⟩, fun h => by cases h⟩
theorem tok98 : TOk Tryz.prog 98 { k := .fn, sz := 1, bys := 8, z := some [.nilk 1] } := ⟨by kernel_rfl, by kernel_rfl, fun l h => by injection h with h; subst h; exact ⟨by kernel_rfl, by kernel_rfl, by decide⟩, fun h => by cases h⟩
theorem tok99 : TOk Tryz.prog 99 { k := .fn, sz := 1, bys := 8, z := some [.nilk 1] } := ⟨by kernel_rfl, by kernel_rfl, fun l h => by injection h with h; subst h; exact ⟨by kernel_rfl, by kernel_rfl, by decide⟩, fun h => by cases h⟩
theorem tok100 : TOk Tryz.prog 100 { k := .fn, sz := 1, bys := 8, z := some [.nilk 1] } := ⟨by kernel_rfl, by kernel_rfl, fun l h => by injection h with h; subst h; exact ⟨by kernel_rfl, by kernel_rfl, by decide⟩, fun h => by cases h⟩
theorem tok101 : TOk Tryz.prog 101 { k := .struct [(0, 52), (1, 4)], sz := 2, bys := 32, z := some [.nil, .bool false] } := ⟨by kernel_rfl, by kernel_rfl, fun l h => by injection h with h; subst h; exact ⟨by kernel_rfl, by kernel_rfl, by decide⟩, fun h => by cases h⟩
theorem tok102 : TOk Tryz.prog 102 { k := .struct [(0, 52), (1, 4)], sz := 2, bys := 32, z := some [.nil, .bool false] } := ⟨by kernel_rfl, by kernel_rfl, fun l h => by injection h with h; subst h; exact ⟨by kernel_rfl, by kernel_rfl, by decide⟩, fun h => by cases h⟩
theorem tok103 : TOk Tryz.prog 103 { k := .fn, sz := 1, bys := 8, z := some [.nilk 1] } := ⟨by kernel_rfl, by kernel_rfl, fun l h => by injection h with h; subst h; exact ⟨by kernel_rfl, by kernel_rfl, by decide⟩, fun h => by cases h⟩
theorem tok104 : TOk Tryz.prog 104 { k := .fn, sz := 1, bys := 8, z := some [.nilk 1] } := ⟨by kernel_rfl, by kernel_rfl, fun l h => by injection h with h; subst h; exact ⟨by kernel_rfl, by kernel_rfl, by decide⟩, fun h => by cases h⟩
theorem tok105 : TOk Tryz.prog 105 { k := .fn, sz := 1, bys := 8, z := some [.nilk 1] } := ⟨by kernel_rfl, by kernel_rfl, fun l h => by injection h with h; subst h; exact ⟨by kernel_rfl, by kernel_rfl, by decide⟩, fun h => by cases h⟩
theorem tok106 : TOk Tryz.prog 106 { k := .fn, sz := 1, bys := 8, z := some [.nilk 1] } := ⟨by kernel_rfl, by kernel_rfl, fun l h => by injection h with h; subst h; exact ⟨by kernel_rfl, by kernel_rfl, by decide⟩, fun h => by cases h⟩
theorem tok107 : TOk Tryz.prog 107 { k := .fn, sz := 1, bys := 8, z := some [.nilk 1] } := ⟨by kernel_rfl, by kernel_rfl, fun l h => by injection h with h; subst h; exact ⟨by kernel_rfl, by kernel_rfl, by decide⟩, fun h => by cases h⟩
theorem tok108 : TOk Tryz.prog 108 { k := .fn, sz := 1, bys := 8, z := some [.nilk 1] } := ⟨by kernel_rfl, by kernel_rfl, fun l h => by injection h with h; subst h; exact ⟨by kernel_rfl, by kernel_rfl, by decide⟩, fun h => by cases h⟩
theorem tok109 : TOk Tryz.prog 109 { k := .fn, sz := 1, bys := 8, z := some [.nilk 1] } := ⟨by kernel_rfl, by kernel_rfl, fun l h => by injection h with h; subst h; exact ⟨by kernel_rfl, by kernel_rfl, by decide⟩, fun h => by cases h⟩
theorem tok110 : TOk Tryz.prog 110 { k := .fn, sz := 1, bys := 8, z := some [.nilk 1] } := ⟨by kernel_rfl, by kernel_rfl, fun l h => by injection h with h; subst h; exact ⟨by kernel_rfl, by kernel_rfl, by decide⟩, fun h => by cases h⟩
theorem tok111 : TOk Tryz.prog 111 { k := .fn, sz := 1, bys := 8, z := some [.nilk 1] } := ⟨by kernel_rfl, by kernel_rfl, fun l h => by injection h with h; subst h; exact ⟨by kernel_rfl, by kernel_rfl, by decide⟩, fun h => by cases h⟩
theorem tok112 : TOk Tryz.prog 112 { k := .fn, sz := 1, bys := 8, z := some [.nilk 1] } := ⟨by kernel_rfl, by kernel_rfl, fun l h => by injection h with h; subst h; exact ⟨by kernel_rfl, by kernel_rfl, by decide⟩, fun h => by cases h⟩
theorem tok113 : TOk Tryz.prog 113 { k := .fn, sz := 1, bys := 8, z := some [.nilk 1] } := ⟨by kernel_rfl, by kernel_rfl, fun l h => by injection h with h; subst h; exact ⟨by kernel_rfl, by kernel_rfl, by decide⟩, fun h => by cases h⟩
theorem tok114 : TOk Tryz.prog 114 { k := .fn, sz := 1, bys := 8, z := some [.nilk 1] } := ⟨by kernel_rfl, by kernel_rfl, fun l h => by injection h with h; subst h; exact ⟨by kernel_rfl, by kernel_rfl, by decide⟩, fun h => by cases h⟩
theorem tok115 : TOk Tryz.prog 115 { k := .fn, sz := 1, bys := 8, z := some [.nilk 1] } := ⟨by kernel_rfl, by kernel_rfl, fun l h => by injection h with h; subst h; exact ⟨by kernel_rfl, by kernel_rfl, by decide⟩, fun h => by cases h⟩
theorem tok116 : TOk Tryz.prog 116 { k := .fn, sz := 1, bys := 8, z := some [.nilk 1] } := ⟨by kernel_rfl, by kernel_rfl, fun l h => by injection h with h; subst h; exact ⟨by kernel_rfl, by kernel_rfl, by decide⟩, fun h => by cases h⟩
theorem tok117 : TOk Tryz.prog 117 { k := .fn, sz := 1, bys := 8, z := some [.nilk 1] } := ⟨by kernel_rfl, by kernel_rfl, fun l h => by injection h with h; subst h; exact ⟨by kernel_rfl, by kernel_rfl, by decide⟩, fun h => by cases h⟩
theorem tok118 : TOk Tryz.prog 118 { k := .fn, sz := 1, bys := 8, z := some [.nilk 1] } := ⟨by kernel_rfl, by kernel_rfl, fun l h => by injection h with h; subst h; exact ⟨by kernel_rfl, by kernel_rfl, by decide⟩, fun h => by cases h⟩
theorem tok119 : TOk Tryz.prog 119 { k := .fn, sz := 1, bys := 8, z := some [.nilk 1] } := ⟨by kernel_rfl, by kernel_rfl, fun l h => by injection h with h; subst h; exact ⟨by kernel_rfl, by kernel_rfl, by decide⟩, fun h => by cases h⟩
theorem tok120 : TOk Tryz.prog 120 { k := .fn, sz := 1, bys := 8, z := some [.nilk 1] } := ⟨by kernel_rfl, by kernel_rfl, fun l h => by injection h with h; subst h; exact ⟨by kernel_rfl, by kernel_rfl, by decide⟩, fun h => by cases h⟩
theorem tok121 : TOk Tryz.prog 121 { k := .fn, sz := 1, bys := 8, z := some [.nilk 1] } := ⟨by kernel_rfl, by kernel_rfl, fun l h => by injection h with h; subst h; exact ⟨by kernel_rfl, by kernel_rfl, by decide⟩, fun h => by cases h⟩
theorem tok122 : TOk Tryz.prog 122 { k := .fn, sz := 1, bys := 8, z := some [.nilk 1] } := ⟨by kernel_rfl, by kernel_rfl, fun l h => by injection h with h; subst h; exact ⟨by kernel_rfl, by kernel_rfl, by decide⟩, fun h => by cases h⟩
theorem tok123 : TOk Tryz.prog 123 { k := .fn, sz := 1, bys := 8, z := some [.nilk 1] } := ⟨by kernel_rfl, by kernel_rfl, fun l h => by injection h with h; subst h; exact ⟨by kernel_rfl, by kernel_rfl, by decide⟩, fun h => by cases h⟩
theorem tok124 : TOk Tryz.prog 124 { k := .fn, sz := 1, bys := 8, z := some [.nilk 1] } := ⟨by kernel_rfl, by kernel_rfl, fun l h => by injection h with h; subst h; exact ⟨by kernel_rfl, by kernel_rfl, by decide⟩, fun h => by cases h⟩
theorem tok125 : TOk Tryz.prog 125 { k := .fn, sz := 1, bys := 8, z := some [.nilk 1] } := ⟨by kernel_rfl, by kernel_rfl, fun l h => by injection h with h; subst h; exact ⟨by kernel_rfl, by kernel_rfl, by decide⟩, fun h => by cases h⟩
theorem tok126 : TOk Tryz.prog 126 { k := .int .u64, sz := 1, bys := 8, z := some [.int .u64 0] } := ⟨by kernel_rfl, by kernel_rfl, fun l h => by injection h with h; subst h; exact ⟨by kernel_rfl, by kernel_rfl, by decide⟩, fun h => by cases h⟩
theorem tok127 : TOk Tryz.prog 127 { k := .fn, sz := 1, bys := 8, z := some [.nilk 1] } := ⟨by kernel_rfl, by kernel_rfl, fun l h => by injection h with h; subst h; exact ⟨by kernel_rfl, by kernel_rfl, by decide⟩, fun h => by cases h⟩
theorem tok129 : TOk Tryz.prog 129 { k := .fn, sz := 1, bys := 8, z := some [.nilk 1] } := ⟨by kernel_rfl, by kernel_rfl, fun l h => by injection h with h; subst h; exact ⟨by kernel_rfl, by kernel_rfl, by decide⟩, fun h => by cases h⟩
theorem tok130 : TOk Tryz.prog 130 { k := .fn, sz := 1, bys := 8, z := some [.nilk 1] } := ⟨by kernel_rfl, by kernel_rfl, fun l h => by injection h with h; subst h; exact ⟨by kernel_rfl, by kernel_rfl, by decide⟩, fun h => by cases h⟩
theorem tok131 : TOk Tryz.prog 131 { k := .fn, sz := 1, bys := 8, z := some [.nilk 1] } := ⟨by kernel_rfl, by kernel_rfl, fun l h => by injection h with h; subst h; exact ⟨by kernel_rfl, by kernel_rfl, by decide⟩, fun h => by cases h⟩
theorem tok132 : TOk Tryz.prog 132 { k := .fn, sz := 1, bys := 8, z := some [.nilk 1] } := ⟨by kernel_rfl, by kernel_rfl, fun l h => by injection h with h; subst h; exact ⟨by kernel_rfl, by kernel_rfl, by decide⟩, fun h => by cases h⟩
theorem tok133 : TOk Tryz.prog 133 { k := .fn, sz := 1, bys := 8, z := some [.nilk 1] } := ⟨by kernel_rfl, by kernel_rfl, fun l h => by injection h with h; subst h; exact ⟨by kernel_rfl, by kernel_rfl, by decide⟩, fun h => by cases h⟩
theorem tok134 : TOk Tryz.prog 134 { k := .fn, sz := 1, bys := 8, z := some [.nilk 1] } := ⟨by kernel_rfl, by kernel_rfl, fun l h => by injection h with h; subst h; exact ⟨by kernel_rfl, by kernel_rfl, by decide⟩, fun h => by cases h⟩
theorem tok135 : TOk Tryz.prog 135 { k := .fn, sz := 1, bys := 8, z := some [.nilk 1] } := ⟨by kernel_rfl, by kernel_rfl, fun l h => by injection h with h; subst h; exact ⟨by kernel_rfl, by kernel_rfl, by decide⟩, fun h => by cases h⟩
theorem tok136 : TOk Tryz.prog 136 { k := .fn, sz := 1, bys := 8, z := some [.nilk 1] } := ⟨by kernel_rfl, by kernel_rfl, fun l h => by injection h with h; subst h; exact ⟨by kernel_rfl, by kernel_rfl, by decide⟩, fun h => by cases h⟩
theorem tok137 : TOk Tryz.prog 137 { k := .fn, sz := 1, bys := 8, z := some [.nilk 1] } := ⟨by kernel_rfl, by kernel_rfl, fun l h => by injection h with h; subst h; exact ⟨by kernel_rfl, by kernel_rfl, by decide⟩, fun h => by cases h⟩
theorem tok138 : TOk Tryz.prog 138 { k := .map 9 4, sz := 1, bys := 8, z := some [.nilk 0] } := ⟨by kernel_rfl, by kernel_rfl, fun l h => by injection h with h; subst h; exact ⟨by kernel_rfl, by kernel_rfl, by decide⟩, fun h => by cases h⟩
theorem tok139 : TOk Tryz.prog 139 { k := .fn, sz := 1, bys := 8, z := some [.nilk 1] } := ⟨by kernel_rfl, by kernel_rfl, fun l h => by injection h with h; subst h; exact ⟨by kernel_rfl, by kernel_rfl, by decide⟩, fun h => by cases h⟩
theorem tok140 : TOk Tryz.prog 140 { k := .fn, sz := 1, bys := 8, z := some [.nilk 1] } := ⟨by kernel_rfl, by kernel_rfl, fun l h => by injection h with h; subst h; exact ⟨by kernel_rfl, by kernel_rfl, by decide⟩, fun h => by cases h⟩
theorem tok141 : TOk Tryz.prog 141 { k := .fn, sz := 1, bys := 8, z := some [.nilk 1] } := ⟨by kernel_rfl, by kernel_rfl, fun l h => by injection h with h; subst h; exact ⟨by kernel_rfl, by kernel_rfl, by decide⟩, fun h => by cases h⟩
theorem tok142 : TOk Tryz.prog 142 { k := .fn, sz := 1, bys := 8, z := some [.nilk 1] } := ⟨by kernel_rfl, by kernel_rfl, fun l h => by injection h with h; subst h; exact ⟨by kernel_rfl, by kernel_rfl, by decide⟩, fun h => by cases h⟩
theorem tok143 : TOk Tryz.prog 143 { k := .int .u64, sz := 1, bys := 8, z := some [.int .u64 0] } := ⟨by kernel_rfl, by kernel_rfl, fun l h => by injection h with h; subst h; exact ⟨by kernel_rfl, by kernel_rfl, by decide⟩, fun h => by cases h⟩
theorem tok144 : TOk Tryz.prog 144 { k := .fn, sz := 1, bys := 8, z := some [.nilk 1] } := ⟨by kernel_rfl, by kernel_rfl, fun l h => by injection h with h; subst h; exact ⟨by kernel_rfl, by kernel_rfl, by decide⟩, fun h => by cases h⟩
theorem tok145 : TOk Tryz.prog 145 { k := .fn, sz := 1, bys := 8, z := some [.nilk 1] } := ⟨by kernel_rfl, by kernel_rfl, fun l h => by injection h with h; subst h; exact ⟨by kernel_rfl, by kernel_rfl, by decide⟩, fun h => by cases h⟩
theorem tok146 : TOk Tryz.prog 146 { k := .fn, sz := 1, bys := 8, z := some [.nilk 1] } := ⟨by kernel_rfl, by kernel_rfl, fun l h => by injection h with h; subst h; exact ⟨by kernel_rfl, by kernel_rfl, by decide⟩, fun h => by cases h⟩
theorem tok147 : TOk Tryz.prog 147 { k := .fn, sz := 1, bys := 8, z := some [.nilk 1] } := ⟨by kernel_rfl, by kernel_rfl, fun l h => by injection h with h; subst h; exact ⟨by kernel_rfl, by kernel_rfl, by decide⟩, fun h => by cases h⟩
theorem tok148 : TOk Tryz.prog 148 { k := .arr 256 4, sz := 256, bys := 256, z := some (List.replicate 256 (.bool false)) } := ⟨by kernel_rfl, by kernel_rfl, fun l h => by injection h with h; subst h; exact ⟨by kernel_rfl, by kernel_rfl, by decide⟩, fun h => by cases h⟩
theorem tok149 : TOk Tryz.prog 149 { k := .arr 256 4, sz := 256, bys := 256, z := some (List.replicate 256 (.bool false)) } := ⟨by kernel_rfl, by kernel_rfl, fun l h => by injection h with h; subst h; exact ⟨by kernel_rfl, by kernel_rfl, by decide⟩, fun h => by cases h⟩
theorem tok151 : TOk Tryz.prog 151 { k := .fn, sz := 1, bys := 8, z := some [.nilk 1] } := ⟨by kernel_rfl, by kernel_rfl, fun l h => by injection h with h; subst h; exact ⟨by kernel_rfl, by kernel_rfl, by decide⟩, fun h => by cases h⟩
theorem tok152 : TOk Tryz.prog 152 { k := .fn, sz := 1, bys := 8, z := some [.nilk 1] } := ⟨by kernel_rfl, by kernel_rfl, fun l h => by injection h with h; subst h; exact ⟨by kernel_rfl, by kernel_rfl, by decide⟩, fun h => by cases h⟩
theorem tok153 : TOk Tryz.prog 153 { k := .fn, sz := 1, bys := 8, z := some [.nilk 1] } := ⟨by kernel_rfl, by kernel_rfl, fun l h => by injection h with h; subst h; exact ⟨by kernel_rfl, by kernel_rfl, by decide⟩, fun h => by cases h⟩
theorem tok154 : TOk Tryz.prog 154 { k := .fn, sz := 1, bys := 8, z := some [.nilk 1] } := ⟨by kernel_rfl, by kernel_rfl, fun l h => by injection h with h; subst h; exact ⟨by kernel_rfl, by kernel_rfl, by decide⟩, fun h => by cases h⟩
theorem tok156 : TOk Tryz.prog 156 { k := .fn, sz := 1, bys := 8, z := some [.nilk 1] } := ⟨by kernel_rfl, by kernel_rfl, fun l h => by injection h with h; subst h; exact ⟨by kernel_rfl, by kernel_rfl, by decide⟩, fun h => by cases h⟩
theorem tok157 : TOk Tryz.prog 157 { k := .fn, sz := 1, bys := 8, z := some [.nilk 1] } := ⟨by kernel_rfl, by kernel_rfl, fun l h => by injection h with h; subst h; exact ⟨by kernel_rfl, by kernel_rfl, by decide⟩, fun h => by cases h⟩
theorem tok158 : TOk Tryz.prog 158 { k := .fn, sz := 1, bys := 8, z := some [.nilk 1] } := ⟨by kernel_rfl, by kernel_rfl, fun l h => by injection h with h; subst h; exact ⟨by kernel_rfl, by kernel_rfl, by decide⟩, fun h => by cases h⟩
theorem tok159 : TOk Tryz.prog 159 { k := .fn, sz := 1, bys := 8, z := some [.nilk 1] } := ⟨by kernel_rfl, by kernel_rfl, fun l h => by injection h with h; subst h; exact ⟨by kernel_rfl, by kernel_rfl, by decide⟩, fun h => by cases h⟩
theorem tok160 : TOk Tryz.prog 160 { k := .fn, sz := 1, bys := 8, z := some [.nilk 1] } := ⟨by kernel_rfl, by kernel_rfl, fun l h => by injection h with h; subst h; exact ⟨by kernel_rfl, by kernel_rfl, by decide⟩, fun h => by cases h⟩
theorem tok161 : TOk Tryz.prog 161 { k := .fn, sz := 1, bys := 8, z := some [.nilk 1] } := ⟨by kernel_rfl, by kernel_rfl, fun l h => by injection h with h; subst h; exact ⟨by kernel_rfl, by kernel_rfl, by decide⟩, fun h => by cases h⟩
theorem tok162 : TOk Tryz.prog 162 { k := .fn, sz := 1, bys := 8, z := some [.nilk 1] } := ⟨by kernel_rfl, by kernel_rfl, fun l h => by injection h with h; subst h; exact ⟨by kernel_rfl, by kernel_rfl, by decide⟩, fun h => by cases h⟩
theorem tok163 : TOk Tryz.prog 163 { k := .fn, sz := 1, bys := 8, z := some [.nilk 1] } := ⟨by kernel_rfl, by kernel_rfl, fun l h => by injection h with h; subst h; exact ⟨by kernel_rfl, by kernel_rfl, by decide⟩, fun h => by cases h⟩
theorem tok164 : TOk Tryz.prog 164 { k := .fn, sz := 1, bys := 8, z := some [.nilk 1] } := ⟨by kernel_rfl, by kernel_rfl, fun l h => by injection h with h; subst h; exact ⟨by kernel_rfl, by kernel_rfl, by decide⟩, fun h => by cases h⟩
theorem tok165 : TOk Tryz.prog 165 { k := .fn, sz := 1, bys := 8, z := some [.nilk 1] } := ⟨by kernel_rfl, by kernel_rfl, fun l h => by injection h with h; subst h; exact ⟨by kernel_rfl, by kernel_rfl, by decide⟩, fun h => by cases h⟩
theorem tok166 : TOk Tryz.prog 166 { k := .fn, sz := 1, bys := 8, z := some [.nilk 1] } := ⟨by kernel_rfl, by kernel_rfl, fun l h => by injection h with h; subst h; exact ⟨by kernel_rfl, by kernel_rfl, by decide⟩, fun h => by cases h⟩
theorem tok167 : TOk Tryz.prog 167 { k := .ptr 149, sz := 1, bys := 8, z := some [.nilp] } := ⟨by kernel_rfl, by kernel_rfl, fun l h => by injection h with h; subst h; exact ⟨by kernel_rfl, by kernel_rfl, by decide⟩, fun h => by cases h⟩
theorem tok168 : TOk Tryz.prog 168 { k := .fn, sz := 1, bys := 8, z := some [.nilk 1] } := ⟨by kernel_rfl, by kernel_rfl, fun l h => by injection h with h; subst h; exact ⟨by kernel_rfl, by kernel_rfl, by decide⟩, fun h => by cases h⟩
theorem tok169 : TOk Tryz.prog 169 { k := .int .u32, sz := 1, bys := 4, z := some [.int .u32 0] } := ⟨by kernel_rfl, by kernel_rfl, fun l h => by injection h with h; subst h; exact ⟨by kernel_rfl, by kernel_rfl, by decide⟩, fun h => by cases h⟩
theorem tok171 : TOk Tryz.prog 171 { k := .fn, sz := 1, bys := 8, z := some [.nilk 1] } := ⟨by kernel_rfl, by kernel_rfl, fun l h => by injection h with h; subst h; exact ⟨by kernel_rfl, by kernel_rfl, by decide⟩, fun h => by cases h⟩
theorem tok172 : TOk Tryz.prog 172 { k := .fn, sz := 1, bys := 8, z := some [.nilk 1] } := ⟨by kernel_rfl, by kernel_rfl, fun l h => by injection h with h; subst h; exact ⟨by kernel_rfl, by kernel_rfl, by decide⟩, fun h => by cases h⟩
theorem tok173 : TOk Tryz.prog 173 { k := .struct [(0, 17), (1, 17), (2, 17), (3, 9)], sz := 4, bys := 40, z := some [.nilp, .nilp, .nilp, .str []] } := ⟨by kernel_rfl, by kernel_rfl, fun l h => by injection h with h; subst h; exact ⟨by kernel_rfl, by kernel_rfl, by decide⟩, fun h => by cases h⟩
theorem tok174 : TOk Tryz.prog 174 { k := .struct [(0, 17), (1, 17), (2, 17), (3, 9)], sz := 4, bys := 40, z := some [.nilp, .nilp, .nilp, .str []] } := ⟨by kernel_rfl, by kernel_rfl, fun l h => by injection h with h; subst h; exact ⟨by kernel_rfl, by kernel_rfl, by decide⟩, fun h => by cases h⟩
theorem tok175 : TOk Tryz.prog 175 { k := .arr 0 16, sz := 0, bys := 0, z := some (List.replicate 0 (.nilp)) } := ⟨by kernel_rfl, by kernel_rfl, fun l h => by injection h with h; subst h; exact ⟨by kernel_rfl, by kernel_rfl, by decide⟩, fun h => by cases h⟩
theorem tok176 : TOk Tryz.prog 176 { k := .struct [(0, 175)], sz := 0, bys := 0, z := some [] } := ⟨by kernel_rfl, by kernel_rfl, fun l h => by injection h with h; subst h; exact ⟨by kernel_rfl, by kernel_rfl, by decide⟩, fun h => by cases h⟩
theorem tok177 : TOk Tryz.prog 177 { k := .struct [(0, 175)], sz := 0, bys := 0, z := some [] } := ⟨by kernel_rfl, by kernel_rfl, fun l h => by injection h with h; subst h; exact ⟨by kernel_rfl, by kernel_rfl, by decide⟩, fun h => by cases h⟩
theorem tok178 : TOk Tryz.prog 178 { k := .int .u8, sz := 1, bys := 1, z := some [.int .u8 0] } := ⟨by kernel_rfl, by kernel_rfl, fun l h => by injection h with h; subst h; exact ⟨by kernel_rfl, by kernel_rfl, by decide⟩, fun h => by cases h⟩
theorem tok179 : TOk Tryz.prog 179 { k := .int .u8, sz := 1, bys := 1, z := some [.int .u8 0] } := ⟨by kernel_rfl, by kernel_rfl, fun l h => by injection h with h; subst h; exact ⟨by kernel_rfl, by kernel_rfl, by decide⟩, fun h => by cases h⟩
theorem tok180 : TOk Tryz.prog 180 { k := .fn, sz := 1, bys := 8, z := some [.nilk 1] } := ⟨by kernel_rfl, by kernel_rfl, fun l h => by injection h with h; subst h; exact ⟨by kernel_rfl, by kernel_rfl, by decide⟩, fun h => by cases h⟩
theorem tok181 : TOk Tryz.prog 181 { k := .ptr 5, sz := 1, bys := 8, z := some [.nilp] } := ⟨by kernel_rfl, by kernel_rfl, fun l h => by injection h with h; subst h; exact ⟨by kernel_rfl, by kernel_rfl, by decide⟩, fun h => by cases h⟩
theorem tok182 : TOk Tryz.prog 182 { k := .int .i32, sz := 1, bys := 4, z := some [.int .i32 0] } := ⟨by kernel_rfl, by kernel_rfl, fun l h => by injection h with h; subst h; exact ⟨by kernel_rfl, by kernel_rfl, by decide⟩, fun h => by cases h⟩
theorem tok183 : TOk Tryz.prog 183 { k := .int .i32, sz := 1, bys := 4, z := some [.int .i32 0] } := ⟨by kernel_rfl, by kernel_rfl, fun l h => by injection h with h; subst h; exact ⟨by kernel_rfl, by kernel_rfl, by decide⟩, fun h => by cases h⟩
theorem tok184 : TOk Tryz.prog 184 { k := .struct [(0, 12), (1, 12), (2, 169), (3, 178), (4, 5), (5, 5), (6, 179), (7, 180), (8, 181), (9, 182), (10, 183)], sz := 11, bys := 48, z := some [.int .u64 0, .int .u64 0, .int .u32 0, .int .u8 0, .int .u8 0, .int .u8 0, .int .u8 0, .nilk 1, .nilp, .int .i32 0, .int .i32 0] } := ⟨by kernel_rfl, by kernel_rfl, fun l h => by injection h with h; subst h; exact ⟨by kernel_rfl, by kernel_rfl, by decide⟩, fun h => by cases h⟩
theorem tok185 : TOk Tryz.prog 185 { k := .struct [(0, 12), (1, 12), (2, 169), (3, 178), (4, 5), (5, 5), (6, 179), (7, 180), (8, 181), (9, 182), (10, 183)], sz := 11, bys := 48, z := some [.int .u64 0, .int .u64 0, .int .u32 0, .int .u8 0, .int .u8 0, .int .u8 0, .int .u8 0, .nilk 1, .nilp, .int .i32 0, .int .i32 0] } := ⟨by kernel_rfl, by kernel_rfl, fun l h => by injection h with h; subst h; exact ⟨by kernel_rfl, by kernel_rfl, by decide⟩, fun h => by cases h⟩
theorem tabOk : TabOk Tryz.prog Θ := tab_of tl (by
  simp only [tl, List.forall_mem_cons]
  exact ⟨tok1, tok2, tok3, tok4, tok5, tok6, tok7, tok8, tok9, tok10, tok11, tok12, tok13, tok14, tok15, tok16, tok17, tok18, tok19, tok21, tok22, tok23, tok24, tok25, tok26, tok27, tok28, tok29, tok30, tok31, tok32, tok33, tok34, tok35, tok36, tok37, tok38, tok39, tok40, tok41, tok42, tok43, tok44, tok46, tok47, tok48, tok50, tok51, tok52, tok53, tok54, tok55, tok56, tok57, tok58, tok59, tok60, tok61, tok62, tok63, tok64, tok65, tok66, tok67, tok68, tok69, tok70, tok72, tok74, tok75, tok76, tok77, tok78, tok79, tok80, tok81, tok82, tok83, tok85, tok86, tok87, tok88, tok89, tok90, tok91, tok92, tok93, tok94, tok95, tok96, tok97, tok98, tok99, tok100, tok101, tok102, tok103, tok104, tok105, tok106, tok107, tok108, tok109, tok110, tok111, tok112, tok113, tok114, tok115, tok116, tok117, tok118, tok119, tok120, tok121, tok122, tok123, tok124, tok125, tok126, tok127, tok129, tok130, tok131, tok132, tok133, tok134, tok135, tok136, tok137, tok138, tok139, tok140, tok141, tok142, tok143, tok144, tok145, tok146, tok147, tok148, tok149, tok151, tok152, tok153, tok154, tok156, tok157, tok158, tok159, tok160, tok161, tok162, tok163, tok164, tok165, tok166, tok167, tok168, tok169, tok171, tok172, tok173, tok174, tok175, tok176, tok177, tok178, tok179, tok180, tok181, tok182, tok183, tok184, tok185, by simp⟩)

end Go.Proofs.YtpkcbdhjnnnkbaaGreat.Abs

/- Steps of a walk, one law for each form of an operation; loops; contracts of functions that only answer. -/
set_option linter.unusedVariables false
set_option linter.unusedSimpArgs false
namespace Go.Proofs.YtpkcbdhjnnnkbaaGreat.Abs
open Go

def bodyOf (f : Func) : Code := f.body.getD .skip

/-- Slots, from a list. -/
def al (l : List (Nat × SV)) : Nat → SV := fun u => match l.find? (fun p => Nat.beq p.1 u) with
  | some p => p.2
  | none => .any

/-- Less is known. -/
def Le (k0 : Nat) (s s' : St) : Prop := ∀ E a w, E.nk = k0 → Rel E s a w → Rel E s' a w
theorem Le.refl (k0 : Nat) (s : St) : Le k0 s s := fun _ _ _ _ h => h
theorem Le.trans {k0 : Nat} {s t u : St} (h : Le k0 s t) (k : Le k0 t u) : Le k0 s u := fun E a w e hr => k E a w e (h E a w e hr)
theorem Le.slots {k0 nk : Nat} {sl l : Nat → SV} {o : Nat → Option AO} (h : ∀ u, l u = .any ∨ l u = sl u) : Le k0 ⟨sl, o, nk⟩ ⟨l, o, nk⟩ := by
  rintro E a w e ⟨S, γ, hr⟩
  refine ⟨S, γ, hr.sto, hr.tr, fun u => ?_, fun u => ?_, hr.df, hr.nn⟩
  · rcases h u with h1 | h1
    · show SR w S γ o (l u) _
      rw [h1]; exact .any _
    · show SR w S γ o (l u) _
      rw [h1]; exact hr.sl u
  · rcases h u with h1 | h1
    · show (l u).lt nk
      rw [h1]; trivial
    · show (l u).lt nk
      rw [h1]; exact hr.slt u
theorem Le.al {k0 nk : Nat} {sl : Nat → SV} {l : List (Nat × SV)} {o : Nat → Option AO} (h : ∀ p ∈ l, sl p.1 = p.2) : Le k0 ⟨sl, o, nk⟩ ⟨Abs.al l, o, nk⟩ := by
  refine Le.slots fun u => ?_
  unfold Abs.al
  split
  · rename_i p hp
    right
    have h1 := List.mem_of_find?_eq_some hp
    have h2 := List.find?_some hp
    have h3 : p.1 = u := Nat.eq_of_beq_eq_true h2
    rw [← h3, h p h1]
  · exact .inl rfl
theorem Le.wk {s s' : St} {τ : Nat → Nat} {k0 : Nat} (h : Wk k0 τ s s') : Le k0 s s' := fun E a w e hr => hr.wk (e ▸ h)

section
variable {P : Program} {Θ : Tab} {n k0 : Nat} {Q : Exit → St → Prop}
theorem WP.le {c : Code} {s s' : St} (h : Le k0 s s') (k : WP P n k0 c s' Q) : WP P n k0 c s Q := WP.of h k
theorem WP.loopL {s : St} {ι : Type} {c : Code} (I : ι → St) (A : ι → Prop) (μ : ι → Nat)
    (round : ∀ i, A i → WP P n k0 c (I i) (Qthen (fun s' => ∃ j, A j ∧ μ j < μ i ∧ Le k0 s' (I j)) Q)) (i : ι) (hi : A i) (hs : Le k0 s (I i)) : WP P n k0 (.loop c) s Q := by
  refine WP.le hs ?_
  refine WP.loop I A μ (fun i hA => ?_) i hi rfl
  intro E a w h1 h2 h3
  refine Go.wp_mono (round i hA E a w h1 h2 h3) ?_
  rintro e a' w' ⟨s', hr, q⟩
  cases e with
  | normal =>
    obtain ⟨j, hAj, hlt, hk⟩ := q
    exact ⟨I j, hk E a' w' h2 hr, j, hAj, hlt, rfl⟩
  | _ => exact ⟨s', hr, q⟩
/-- Two ways that come together. -/
theorem WP.seqJ {s : St} (I : St) {x y : Code} (h : WP P n k0 x s (Qthen (fun s' => Le k0 s' I) Q)) (k : WP P n k0 y I Q) : WP P n k0 (.seq x y) s Q :=
  WP.seq fun K hK => WP.mono h fun e s' hq => by
    cases e with
    | normal => exact hK s' (WP.le hq k)
    | _ => exact hq
theorem WP.reg (hΘ : TabOk P Θ) {s : St} {id : Nat} {l : List Oper} (hd : (l.all fun o => dstOk n o.dst) = true) (h : vOps P Θ l.toArray (Q .normal) l s) : WP P n k0 (.region id l.toArray false) s Q :=
  WP.region hΘ (by simpa using hd) (by simpa using h)
theorem WP.drw (hΘ : TabOk P Θ) (hm : P.follows .mixedOrders = true) {s : St} {id : Nat} {l : List Oper} (hd : (l.all fun o => dstOk n o.dst) = true) (hf : flowOk l.toArray = true) (h : dOps P Θ l.toArray (Q .normal) l s) : WP P n k0 (.region id l.toArray true) s Q :=
  WP.drawn hΘ hm (by simpa using hd) hf (by simpa using h)
end

/-- It answers r, and nothing that is known has changed. -/
def PSpec (P : Program) (f : FuncId) (args : List SV) (r : SV) : Prop := ∀ (o : Nat → Option AO) (nk : Nat), Spec P f args o nk fun r' o' nk' => r' = r ∧ o' = o ∧ nk' = nk

theorem Spec.pure {P : Program} {f : FuncId} {args : List SV} {o : Nat → Option AO} {nk : Nat} {r : SV} (hr : ∀ m, r.lt m) (hid : r.ren id = r)
    (h : Spec P f args o nk fun r' o' nk' => r' = r ∧ nk ≤ nk' ∧ ∀ t, t < nk → o' t = o t) : Spec P f args o nk fun r' o' nk' => r' = r ∧ o' = o ∧ nk' = nk := by
  intro w S γ vs h1 h2 h3 h4
  refine (h w S γ vs h1 h2 h3 h4).mono ?_
  rintro v w' ⟨r', o', nk', S', γ', ⟨rfl, hnk, ho⟩, hs, ht, hsr, hl⟩
  have hk : Wko nk id o' o nk := by
    refine ⟨Nat.le_refl _, fun t x hx => ?_, fun t t' x x' _ _ e => e, fun _ _ _ _ => rfl⟩
    have hlt := h1.o_lt t x hx
    refine ⟨hlt, by rw [AO.ren_id]; show o' t = some x; rw [ho t hlt, hx], ?_⟩
    cases x with
    | box cs => exact (h1.box t cs hx).2
    | row e z xs => trivial
    | raw ob => trivial
  exact ⟨r', o, nk, S', γ' ∘ id, ⟨rfl, rfl, rfl⟩, hk.sto hs, hk.tr ht, hsr.of_ren (fun t x hx => (hk.o t x hx).2.1) r' hid, hr _⟩

theorem PSpec.of {P : Program} {f : FuncId} {n : Nat} {ts : List Nat} {c : Code} {args : List SV} {x : D} (hf : FnOk P f n ts c) (hn : args.length ≤ n)
    (h : ∀ o nk, WP P n nk c ⟨slots args, o, nk⟩ (retQ ts fun r o' nk' => r = .d x ∧ nk ≤ nk' ∧ ∀ t, t < nk → o' t = o t)) : PSpec P f args (.d x) := fun o nk =>
  Spec.pure (fun _ => trivial) rfl (Spec.of_body hf hn (h o nk))
/-! ### the steps -/
theorem cnd_true (v : SV) : cnd true v = v := by unfold cnd; rfl
section
variable {P : Program} {Θ : Tab} {ops : Array Oper} {K : St → Prop} {r : List Oper} {sl : Nat → SV} {o : Nat → Option AO} {nk d ty j : Nat} {op : Op} {pos : String} {af : Array Edge} {want c : Bool} {v : SV}
theorem u_step (h : vOp P Θ op ⟨sl, o, nk⟩ fun v o' nk' => vOps P Θ ops K r ⟨upd sl d v, o', nk'⟩) :
    vOps P Θ ops K ({ dst := some d, op := op, type := ty, pos := pos, after := af, guard := none } :: r) ⟨sl, o, nk⟩ := h
theorem u_step0 (h : vOp P Θ op ⟨sl, o, nk⟩ fun v o' nk' => vOps P Θ ops K r ⟨sl, o', nk'⟩) :
    vOps P Θ ops K ({ dst := none, op := op, type := ty, pos := pos, after := af, guard := none } :: r) ⟨sl, o, nk⟩ := h
theorem u_guard (hb : GC (gsl ops ⟨sl, o, nk⟩ j) want c) (h : c = true → vOp P Θ op ⟨sl, o, nk⟩ fun v' o' nk' => v' = v ∧ o' = o ∧ nk' = nk) (k : vOps P Θ ops K r ⟨upd sl d (cnd c v), o, nk⟩) :
    vOps P Θ ops K ({ dst := some d, op := op, type := ty, pos := pos, after := af, guard := some (j, want) } :: r) ⟨sl, o, nk⟩ := ⟨c, v, hb, h, k⟩
theorem d_step (h : vOp P Θ op ⟨sl, o, nk⟩ fun v' o' nk' => v' = v ∧ o' = o ∧ nk' = nk) (k : dOps P Θ ops K r ⟨upd sl d v, o, nk⟩) :
    dOps P Θ ops K ({ dst := some d, op := op, type := ty, pos := pos, after := af, guard := none } :: r) ⟨sl, o, nk⟩ := ⟨v, h, k⟩
theorem d_guard (hb : GC (gsl ops ⟨sl, o, nk⟩ j) want c) (h : c = true → vOp P Θ op ⟨sl, o, nk⟩ fun v' o' nk' => v' = v ∧ o' = o ∧ nk' = nk) (k : dOps P Θ ops K r ⟨upd sl d (cnd c v), o, nk⟩) :
    dOps P Θ ops K ({ dst := some d, op := op, type := ty, pos := pos, after := af, guard := some (j, want) } :: r) ⟨sl, o, nk⟩ := ⟨cnd c v, ⟨c, v, hb, h, rfl⟩, k⟩
theorem u_nil {s : St} (h : K s) : vOps P Θ ops K [] s := h
theorem d_nil {s : St} (h : K s) : dOps P Θ ops K [] s := h
end

section
variable {P : Program} {Θ : Tab} {K : SV → (Nat → Option AO) → Nat → Prop} {sl : Nat → SV} {o : Nat → Option AO} {nk : Nat} {x y ix : Operand} {t e f : Nat} {a b q : D}

theorem o_move (hx : ev sl x = .d a) (h : K (.d a) o nk) : vOp P Θ (.move x) ⟨sl, o, nk⟩ K := by
  refine Or.inl ?_
  show K (ev sl x) o nk
  rw [hx]; exact h
theorem o_assign (hx : ev sl x = .d a) (h : K (.d a) o nk) : vOp P Θ (.assign x) ⟨sl, o, nk⟩ K := by
  refine Or.inl ?_
  show K (ev sl x) o nk
  rw [hx]; exact h
theorem o_moveV {v : SV} (hx : ev sl x = v) (h : K v o nk) : vOp P Θ (.move x) ⟨sl, o, nk⟩ K := by
  refine Or.inl ?_
  show K (ev sl x) o nk
  rw [hx]; exact h
theorem o_assignV {v : SV} (hx : ev sl x = v) (h : K v o nk) : vOp P Θ (.assign x) ⟨sl, o, nk⟩ K := by
  refine Or.inl ?_
  show K (ev sl x) o nk
  rw [hx]; exact h
theorem o_pick_and {c : Operand} {p q : Bool} (hc : ev sl c = .d (.bool p)) (hx : ev sl x = cnd p (.d (.bool q))) (hy : ev sl y = .d (.bool false)) (h : K (.d (.bool (p && q))) o nk) : vOp P Θ (.pick c x y) ⟨sl, o, nk⟩ K := by
  refine Or.inl ?_
  refine ⟨p, hc, ?_⟩
  show K (if p = true then ev sl x else ev sl y) o nk
  rw [hx, hy]
  cases p
  · exact h
  · rw [cnd_true]; exact h
theorem o_pick_or {c : Operand} {p q : Bool} (hc : ev sl c = .d (.bool p)) (hx : ev sl x = .d (.bool true)) (hy : ev sl y = cnd (!p) (.d (.bool q))) (h : K (.d (.bool (p || q))) o nk) : vOp P Θ (.pick c x y) ⟨sl, o, nk⟩ K := by
  refine Or.inl ?_
  refine ⟨p, hc, ?_⟩
  show K (if p = true then ev sl x else ev sl y) o nk
  rw [hx, hy]
  cases p
  · simp only [Bool.not_false, cnd_true]; exact h
  · exact h
theorem o_fa_loc {i j : TI} {fs : List (Nat × Nat)} {off ft k g : Nat} {cs : List SV} (hx : ev sl x = .loc k g) (hi : Θ t = some i) (hk : i.k = .struct fs) (hf : fs[f]? = some (off, ft)) (hj : Θ ft = some j) (hz : j.sz ≠ 0) (ho : o k = some (.box cs)) (h : K (.loc k (g + off)) o nk) :
    vOp P Θ (.fieldAddr t x f) ⟨sl, o, nk⟩ K := by
  refine Or.inl ?_
  refine ⟨i, fs, off, ft, j, hi, hk, hf, hj, hz, ?_⟩
  show (match ev sl x with | .loc k g => _ | .el x => _ | .rel k q g => _ | _ => False)
  rw [hx]; exact ⟨⟨cs, ho⟩, h⟩
theorem o_fa_el {i j : TI} {fs : List (Nat × Nat)} {off ft : Nat} (hx : ev sl x = .el a) (hi : Θ t = some i) (hk : i.k = .struct fs) (hf : fs[f]? = some (off, ft)) (hj : Θ ft = some j) (hz : j.sz ≠ 0) (hs : a.sub off j.sz j.k.agg = some b) (h : K (.el b) o nk) :
    vOp P Θ (.fieldAddr t x f) ⟨sl, o, nk⟩ K := by
  refine Or.inl ?_
  refine ⟨i, fs, off, ft, j, hi, hk, hf, hj, hz, ?_⟩
  show (match ev sl x with | .loc k g => _ | .el x => _ | .rel k q g => _ | _ => False)
  rw [hx]; exact ⟨b, hs, h⟩
theorem o_ld_loc {i : TI} {k g : Nat} {cs : List SV} {v : D} (hx : ev sl x = .loc k g) (hi : Θ t = some i) (ha : i.k.agg = false) (ho : o k = some (.box cs)) (hc : cs[g]? = some (.d v)) (h : K (.d v) o nk) : vOp P Θ (.load t x) ⟨sl, o, nk⟩ K := by
  refine Or.inl ?_
  refine ⟨i, hi, ?_⟩
  show (match ev sl x with | .loc k f => _ | .el x => _ | _ => False)
  rw [hx]
  refine ⟨cs, ho, ?_⟩
  rw [if_neg (by rw [ha]; simp)]
  exact ⟨_, hc, h⟩
theorem o_ld_locV {i : TI} {k g : Nat} {cs : List SV} {v : SV} (hx : ev sl x = .loc k g) (hi : Θ t = some i) (ha : i.k.agg = false) (ho : o k = some (.box cs)) (hc : cs[g]? = some v) (h : K v o nk) : vOp P Θ (.load t x) ⟨sl, o, nk⟩ K := by
  refine Or.inl ?_
  refine ⟨i, hi, ?_⟩
  show (match ev sl x with | .loc k f => _ | .el x => _ | _ => False)
  rw [hx]
  refine ⟨cs, ho, ?_⟩
  rw [if_neg (by rw [ha]; simp)]
  exact ⟨_, hc, h⟩
theorem o_ld_agg {i : TI} {k g : Nat} {cs : List SV} {ds : List D} (hx : ev sl x = .loc k g) (hi : Θ t = some i) (ha : i.k.agg = true) (ho : o k = some (.box cs)) (hc : allD ((cs.drop g).take i.sz) = some ds) (hl : ds.length = i.sz) (hlf : ds.all D.leaf = true) (h : K (.d (.agg ds)) o nk) : vOp P Θ (.load t x) ⟨sl, o, nk⟩ K := by
  refine Or.inl ?_
  refine ⟨i, hi, ?_⟩
  show (match ev sl x with | .loc k f => _ | .el x => _ | _ => False)
  rw [hx]
  refine ⟨cs, ho, ?_⟩
  rw [if_pos ha]
  exact .inl ⟨ds, hc, hl, hlf, h⟩
theorem o_ld_el {i : TI} (hx : ev sl x = .el a) (hi : Θ t = some i) (h1 : a.leaf = !i.k.agg) (h2 : a.width = i.sz) (h : K (.d a) o nk) : vOp P Θ (.load t x) ⟨sl, o, nk⟩ K := by
  refine Or.inl ?_
  refine ⟨i, hi, ?_⟩
  show (match ev sl x with | .loc k f => _ | .el x => _ | _ => False)
  rw [hx]
  exact ⟨h1, h2, h⟩
theorem o_box_agg {cs : List D} (hx : ev sl x = .d (.agg cs)) (h : K (.loc nk 0) (upd o nk (some (.box (cs.map .d)))) (nk + 1)) : vOp P Θ (.box e x) ⟨sl, o, nk⟩ K := by
  refine Or.inl ?_
  refine ⟨cs.map .d, ?_, h⟩
  show (ev sl x).cells o = _
  rw [hx]; rfl
theorem o_alloc {i : TI} {l : List D} (hi : Θ e = some i) (hz : i.z = some l) (h : K (.loc nk 0) (upd o nk (some (.box (l.map .d)))) (nk + 1)) : vOp P Θ (.alloc e) ⟨sl, o, nk⟩ K := .inl ⟨i, l, hi, hz, h⟩
theorem o_st_leaf {i : TI} {k g : Nat} {cs : List SV} (hx : ev sl x = .loc k g) (hy : ev sl y = .d a) (hl : a.leaf = true) (hi : Θ t = some i) (hs : i.sz = 1) (ho : o k = some (.box cs)) (hle : g < cs.length) (h : K .any (upd o k (some (.box (cs.take g ++ [.d a] ++ cs.drop (g + 1))))) nk) : vOp P Θ (.store t x y) ⟨sl, o, nk⟩ K := by
  refine Or.inl ?_
  refine ⟨i, [.d a], hi, ?_, hs.symm, ?_⟩
  · show (ev sl y).cells o = _
    rw [hy]
    cases a <;> simp [D.leaf] at hl <;> rfl
  · show (match ev sl x with | .loc k f => _ | _ => False)
    rw [hx]
    exact ⟨cs, ho, hle, h⟩
theorem o_st_agg {i : TI} {k g : Nat} {cs : List SV} {ds : List D} (hx : ev sl x = .loc k g) (hy : ev sl y = .d (.agg ds)) (hi : Θ t = some i) (hs : ds.length = i.sz) (ho : o k = some (.box cs)) (hle : g + ds.length ≤ cs.length) (h : K .any (upd o k (some (.box (cs.take g ++ ds.map .d ++ cs.drop (g + ds.length))))) nk) : vOp P Θ (.store t x y) ⟨sl, o, nk⟩ K := by
  refine Or.inl ?_
  refine ⟨i, ds.map .d, hi, ?_, by simpa using hs, ?_⟩
  · show (ev sl y).cells o = _
    rw [hy]; rfl
  · show (match ev sl x with | .loc k f => _ | _ => False)
    rw [hx]
    exact ⟨cs, ho, by simpa using hle, by simpa using h⟩
theorem o_ia_sl {i j : TI} {z : Nat} {xs : List D} {k : IntKind} {m : Int} (hx : ev sl x = .d (.sl z xs)) (hy : ev sl ix = .d (.int k m)) (hi : Θ t = some i) (hk : i.k = .slice e) (hj : Θ e = some j) (hz : z = j.sz) (h0 : 0 ≤ m) (ha : xs[m.toNat]? = some a) (h : K (.el a) o nk) : vOp P Θ (.indexAddr t x ix) ⟨sl, o, nk⟩ K := by
  refine Or.inl ?_
  refine ⟨i, e, j, k, m, hi, .inl hk, hj, hy, h0, ?_⟩
  show (match ev sl x with | .d (.sl z xs) => _ | .row q => _ | .loc q f => _ | _ => False)
  rw [hx]
  exact ⟨hk, hz, a, ha, h⟩
theorem o_ix {i : TI} {l : List UInt8} {k : IntKind} {m : Int} (hx : ev sl x = .d (.str l)) (hy : ev sl ix = .d (.int k m)) (hi : Θ t = some i) (hk : i.k = .str) (h0 : 0 ≤ m) (hlt : m.toNat < l.length) (h : K (.d (.int .u8 (bAt l m.toNat))) o nk) : vOp P Θ (.index t x ix) ⟨sl, o, nk⟩ K :=
  .inl ⟨i, l, k, m, hi, hk, hx, hy, h0, hlt, h⟩
theorem o_len_sl {i : TI} {z : Nat} {xs : List D} (hx : ev sl x = .d (.sl z xs)) (hi : Θ t = some i) (hk : i.k = .slice e) (h : K (.d (.int .i64 xs.length)) o nk) : vOp P Θ (.call { callee := .builtin .len, args := #[x], argTypes := #[t] }) ⟨sl, o, nk⟩ K := by
  refine Or.inl ?_
  show leOp Θ o #[t] (ev sl x) (fun v => K v o nk)
  rw [hx]; exact ⟨t, i, rfl, hi, ⟨e, hk⟩, _, rfl, h⟩
theorem o_len_row {i : TI} {q e' z : Nat} {xs : List D} (hx : ev sl x = .row q) (hi : Θ t = some i) (hk : i.k = .slice e) (ho : o q = some (.row e' z xs)) (h : K (.d (.int .i64 xs.length)) o nk) : vOp P Θ (.call { callee := .builtin .len, args := #[x], argTypes := #[t] }) ⟨sl, o, nk⟩ K := by
  refine Or.inl ?_
  show leOp Θ o #[t] (ev sl x) (fun v => K v o nk)
  rw [hx]; exact ⟨t, i, rfl, hi, ⟨e, hk⟩, _, by simp [lenD, ho], h⟩
theorem o_len_str {i : TI} {l : List UInt8} (hx : ev sl x = .d (.str l)) (hi : Θ t = some i) (hk : i.k = .str) (h : K (.d (.int .i64 l.length)) o nk) : vOp P Θ (.call { callee := .builtin .len, args := #[x], argTypes := #[t] }) ⟨sl, o, nk⟩ K := by
  refine Or.inl ?_
  show leOp Θ o #[t] (ev sl x) (fun v => K v o nk)
  rw [hx]; exact ⟨t, i, rfl, hi, hk, _, rfl, h⟩
theorem o_mm {ts : Array Nat} {bi : Builtin} {r : D} (hb : bi = .max ∨ bi = .min) (h1 : mmD (bi == .max) (ev sl x) (ev sl y) = some r) (h : K (.d r) o nk) : vOp P Θ (.call { callee := .builtin bi, args := #[x, y], argTypes := ts }) ⟨sl, o, nk⟩ K := by
  refine Or.inl ?_
  rcases hb with rfl | rfl <;> exact ⟨r, h1, h⟩
theorem o_bin_int {bo : BinOp} {u : Nat} {k : IntKind} {m m' : Int} {r : D} (hx : ev sl x = .d (.int k m)) (hy : ev sl y = .d (.int k m')) (hb : bo ≠ .shl ∧ bo ≠ .shr) (hr : intBin bo k m m' = some r) (h : K (.d r) o nk) : vOp P Θ (.binOp bo t x y u) ⟨sl, o, nk⟩ K := by
  refine Or.inl ?_
  show bnOp Θ o bo t (ev sl x) (ev sl y) (fun v => K v o nk)
  rw [hx, hy]
  unfold bnOp
  simp only
  split
  · exact (hb.1 rfl).elim
  · exact (hb.2 rfl).elim
  · exact ⟨trivial, r, hr, h⟩
theorem o_bin_sh {bo : BinOp} {u : Nat} {k k' : IntKind} {m m' : Int} {r : D} (hx : ev sl x = .d (.int k m)) (hy : ev sl y = .d (.int k' m')) (hr : shBin bo k m m' = some r) (h : K (.d r) o nk) : vOp P Θ (.binOp bo t x y u) ⟨sl, o, nk⟩ K := by
  refine Or.inl ?_
  show bnOp Θ o bo t (ev sl x) (ev sl y) (fun v => K v o nk)
  rw [hx, hy]
  cases bo <;> simp [shBin] at hr
  all_goals exact ⟨r, by simp [shBin, hr], h⟩
theorem o_bin_str {bo : BinOp} {u : Nat} {l l' : List UInt8} {r : D} (hx : ev sl x = .d (.str l)) (hy : ev sl y = .d (.str l')) (hr : strBin bo l l' = some r) (h : K (.d r) o nk) : vOp P Θ (.binOp bo t x y u) ⟨sl, o, nk⟩ K := by
  refine Or.inl ?_
  show bnOp Θ o bo t (ev sl x) (ev sl y) (fun v => K v o nk)
  rw [hx, hy]; exact ⟨r, hr, h⟩
theorem o_bin_neb {i : TI} {u : Nat} {p q : Bool} (hx : ev sl x = .d (.bool p)) (hy : ev sl y = .d (.bool q)) (hi : Θ t = some i) (hk : i.k = .bool) (h : K (.d (.bool (!(p == q)))) o nk) : vOp P Θ (.binOp .neq t x y u) ⟨sl, o, nk⟩ K := by
  refine Or.inl ?_
  show bnOp Θ o .neq t (ev sl x) (ev sl y) (fun v => K v o nk)
  rw [hx, hy]; exact ⟨⟨i, hi, hk⟩, h⟩
theorem o_not {p : Bool} (hx : ev sl x = .d (.bool p)) (h : K (.d (.bool (!p))) o nk) : vOp P Θ (.unOp .not t x) ⟨sl, o, nk⟩ K := by
  refine Or.inl ?_
  refine ⟨.bool (!p), ?_, h⟩
  show unOpD .not (ev sl x) = _
  rw [hx]; rfl
theorem o_un {u : UnOp} {r : D} (hx : ev sl x = .d a) (hr : unOpD u (.d a) = some r) (h : K (.d r) o nk) : vOp P Θ (.unOp u t x) ⟨sl, o, nk⟩ K := by
  refine Or.inl ?_
  refine ⟨r, ?_, h⟩
  show unOpD u (ev sl x) = _
  rw [hx]; exact hr
theorem o_cv_int {i j : TI} {src dst : Nat} {k k' : IntKind} {m : Int} (hx : ev sl x = .d (.int k m)) (hi : Θ src = some i) (hj : Θ dst = some j) (hk : j.k = .int k') (h : K (.d (.int k' (k'.wrap m))) o nk) : vOp P Θ (.convert src dst x) ⟨sl, o, nk⟩ K := by
  refine Or.inl ?_
  show coOp Θ o src dst (ev sl x) (fun v => K v o nk)
  rw [hx]
  refine ⟨i, j, hi, hj, ?_⟩
  simp only [hk]; exact h
theorem o_cv_bytes {i j je : TI} {src dst : Nat} {l : List UInt8} (hx : ev sl x = .d (.str l)) (hi : Θ src = some i) (hik : i.k = .str) (hj : Θ dst = some j) (hk : j.k = .slice e) (he : Θ e = some je) (hek : je.k = .int .u8) (hle : l.length ≤ 9223372036854775807) (h : K (.d (.sl 1 (bytesD l))) o nk) : vOp P Θ (.convert src dst x) ⟨sl, o, nk⟩ K := by
  refine Or.inl ?_
  show coOp Θ o src dst (ev sl x) (fun v => K v o nk)
  rw [hx]
  refine ⟨i, j, hi, hj, hik, ?_⟩
  simp only [hk]; exact ⟨⟨je, he, hek⟩, hle, h⟩
theorem o_sl_str {i : TI} {l : List UInt8} {lo hi : Option Operand} {m p : Nat} (hx : ev sl x = .d (.str l)) (hi' : Θ t = some i) (hk : i.k = .str) (hh : bndO l.length l.length (hi.map (ev sl)) = some m) (hl : bndO m 0 (lo.map (ev sl)) = some p) (h : K (.d (.str ((l.take m).drop p))) o nk) : vOp P Θ (.slice t x lo hi none) ⟨sl, o, nk⟩ K := by
  refine Or.inl ?_
  show slOp Θ o nk t (ev sl x) _ _ _ _
  rw [hx]; exact ⟨⟨i, hi', hk⟩, rfl, m, p, hh, hl, h⟩
theorem o_sl_sl {i j : TI} {z : Nat} {xs : List D} {lo hi : Option Operand} {m p : Nat} (hx : ev sl x = .d (.sl z xs)) (hi' : Θ t = some i) (hk : i.k = .slice e) (hj : Θ e = some j) (hz : j.sz = z) (hh : bndO xs.length xs.length (hi.map (ev sl)) = some m) (hl : bndO m 0 (lo.map (ev sl)) = some p) (h : K (.d (.sl z ((xs.take m).drop p))) o nk) : vOp P Θ (.slice t x lo hi none) ⟨sl, o, nk⟩ K := by
  refine Or.inl ?_
  show slOp Θ o nk t (ev sl x) _ _ _ _
  rw [hx]; exact ⟨⟨i, e, j, hi', hk, hj, hz⟩, .inl rfl, xs.length, m, p, rfl, hh, hl, h⟩
theorem o_bs {n : Nat} {i j : TI} {l xs : List D} {ps : Array (Nat × Operand)} (hp : partsL j.sz 0 (ps.toList.map fun p => (p.1, ev sl p.2)) = some xs) (hi : Θ t = some i) (hk : i.k = .slice e) (hj : Θ e = some j) (hz : j.z = some l) (hl : l.length = j.sz) (hpos : 0 < j.sz) (hn : xs.length = n) (hs : n * j.sz ≤ 16777216) (hn0 : n ≠ 0) (h : K (.d (.sl j.sz xs)) o nk) : vOp P Θ (.buildSlice t n ps) ⟨sl, o, nk⟩ K :=
  .inl ⟨i, e, j, l, xs, hi, hk, hj, hz, hl, hpos, hp, hn, hs, by rw [if_neg hn0]; exact .inl h⟩
theorem o_bs0 {i j : TI} {l : List D} (hi : Θ t = some i) (hk : i.k = .slice e) (hj : Θ e = some j) (hz : j.z = some l) (hl : l.length = j.sz) (hpos : 0 < j.sz) (h : K (.row nk) (upd o nk (some (.row e j.sz []))) (nk + 1)) : vOp P Θ (.buildSlice t 0 #[]) ⟨sl, o, nk⟩ K :=
  .inl ⟨i, e, j, l, [], hi, hk, hj, hz, hl, hpos, rfl, rfl, by omega, h⟩
theorem o_bu {i : TI} {fs : List (Nat × Nat)} {l ds : List D} {ps : Array (Nat × Operand)} (hfl : fillL (placeOf Θ fs) l (ps.toList.map fun p => (p.1, ev sl p.2)) = some ds) (hi : Θ t = some i) (hk : i.k = .struct fs) (hz : i.z = some l) (h : K (.d (.agg ds)) o nk) : vOp P Θ (.build t ps) ⟨sl, o, nk⟩ K :=
  .inl ⟨i, fs, l, ds, hi, hk, hz, hfl, h⟩
theorem o_ap {i j : TI} {l xs ys : List D} {q : Option Nat} (hi : Θ t = some i) (hk : i.k = .slice e) (hj : Θ e = some j) (hz : j.z = some l) (hl : l.length = j.sz) (hpos : 0 < j.sz) (hd : dstOf o e j.sz (ev sl x) = some (q, xs)) (hns : ∀ b, ev sl y ≠ .d (.str b)) (hs : srcOf o j.sz (ev sl y) = some ys)
    (h63 : xs.length + ys.length ≤ 9223372036854775807) (hby : (xs.length + ys.length) * j.bys ≤ 140737488355328) (h : K (.row nk) (upd (killo o q) nk (some (.row e j.sz (xs ++ ys)))) (nk + 1)) : vOp P Θ (.call { callee := .builtin .append, args := #[x, y], argTypes := #[t, t] }) ⟨sl, o, nk⟩ K := by
  refine Or.inl ?_
  refine ⟨t, t, i, e, j, l, q, xs, ys, rfl, hi, hk, hj, hz, hl, hpos, hd, ?_, h63, hby, h⟩
  split
  · rename_i heq; exact (hns _ heq).elim
  · exact ⟨rfl, hs⟩
theorem o_lookup {kt : Nat} {i j je : TI} {q : Nat} {ks : List (List UInt8)} {k : List UInt8} {m : Operand} (hm : ev sl m = .raw q) (hx : ev sl x = .d (.str k)) (hi : Θ t = some i) (hk : i.k = .map kt e) (hj : Θ kt = some j) (hjk : j.k = .str) (he : Θ e = some je) (hz : je.z = some [.bool false]) (hb : je.k = .bool) (hq : o q = some (.raw (setOb ks))) (h : K (.d (.bool (decide (k ∈ ks)))) o nk) : vOp P Θ (.lookup t m x false) ⟨sl, o, nk⟩ K :=
  .inl ⟨rfl, kt, e, i, j, je, q, ks, k, hi, hk, hj, hjk, he, hz, hb, hm, hq, hx, h⟩
theorem o_ext {q : Nat} {xs : List SV} {c : SV} (hx : ev sl x = .tup xs) (hq : xs[q]? = some c) (h : K c o nk) : vOp P Θ (.extract x q) ⟨sl, o, nk⟩ K := .inl ⟨xs, c, hx, hq, h⟩
theorem o_call {g : FuncId} {asx : Array Operand} {ts : Array Nat} {us : List SV} {Q : SV → (Nat → Option AO) → Nat → Prop} (hs : Spec P g us o nk Q) (ha : asx.toList.map (ev sl) = us) (h : ∀ r o' nk', Q r o' nk' → K r o' nk') : vOp P Θ (.call { callee := .value (.func g), args := asx, argTypes := ts }) ⟨sl, o, nk⟩ K := by
  refine Or.inl ?_
  subst ha
  refine ⟨g, [], [], rfl, ?_⟩
  rw [List.nil_append, List.append_nil]
  exact hs.mono h
theorem o_pcall {g : FuncId} {asx : Array Operand} {ts : Array Nat} {us : List SV} {r : SV} (hs : PSpec P g us r) (ha : asx.toList.map (ev sl) = us) (h : K r o nk) : vOp P Θ (.call { callee := .value (.func g), args := asx, argTypes := ts }) ⟨sl, o, nk⟩ K :=
  o_call (hs o nk) ha (by rintro r' o' nk' ⟨rfl, rfl, rfl⟩; exact h)
end

/-! ### numbers -/
theorem wrap_i64 {m : Int} (h1 : -9223372036854775808 ≤ m) (h2 : m ≤ 9223372036854775807) : IntKind.i64.wrap m = m := by
  rw [IntKind.wrap_i64]; omega
end Go.Proofs.YtpkcbdhjnnnkbaaGreat.Abs

/- Steps that make or change objects: the objects told by what is known of them. -/
set_option linter.unusedVariables false
set_option linter.unusedSimpArgs false
namespace Go.Proofs.YtpkcbdhjnnnkbaaGreat.Abs
open Go

section
variable {P : Program} {Θ : Tab} {K : SV → (Nat → Option AO) → Nat → Prop} {sl : Nat → SV} {o : Nat → Option AO} {nk : Nat} {x y ix : Operand} {t e f : Nat} {a b : D}
theorem g_box {cs : List D} (hx : ev sl x = .d (.agg cs)) (h : ∀ o1, o1 nk = some (.box (cs.map .d)) → (∀ t, t ≠ nk → o1 t = o t) → K (.loc nk 0) o1 (nk + 1)) : vOp P Θ (.box e x) ⟨sl, o, nk⟩ K :=
  o_box_agg hx (h _ (upd_same _ _ _) fun _ ht => upd_ne _ _ ht)
theorem g_alloc {i : TI} {l : List D} (hi : Θ e = some i) (hz : i.z = some l) (h : ∀ o1, o1 nk = some (.box (l.map .d)) → (∀ t, t ≠ nk → o1 t = o t) → K (.loc nk 0) o1 (nk + 1)) : vOp P Θ (.alloc e) ⟨sl, o, nk⟩ K :=
  o_alloc hi hz (h _ (upd_same _ _ _) fun _ ht => upd_ne _ _ ht)
theorem g_st {i : TI} {k g : Nat} {cs : List SV} (hx : ev sl x = .loc k g) (hy : ev sl y = .d a) (hl : a.leaf = true) (hi : Θ t = some i) (hs : i.sz = 1) (ho : o k = some (.box cs)) (hle : g < cs.length) (h : ∀ o1, o1 k = some (.box (cs.take g ++ [.d a] ++ cs.drop (g + 1))) → (∀ t, t ≠ k → o1 t = o t) → K .any o1 nk) : vOp P Θ (.store t x y) ⟨sl, o, nk⟩ K :=
  o_st_leaf hx hy hl hi hs ho hle (h _ (upd_same _ _ _) fun _ ht => upd_ne _ _ ht)
theorem g_sta {i : TI} {k g : Nat} {cs : List SV} {ds : List D} (hx : ev sl x = .loc k g) (hy : ev sl y = .d (.agg ds)) (hi : Θ t = some i) (hs : ds.length = i.sz) (ho : o k = some (.box cs)) (hle : g + ds.length ≤ cs.length) (h : ∀ o1, o1 k = some (.box (cs.take g ++ ds.map .d ++ cs.drop (g + ds.length))) → (∀ t, t ≠ k → o1 t = o t) → K .any o1 nk) : vOp P Θ (.store t x y) ⟨sl, o, nk⟩ K :=
  o_st_agg hx hy hi hs ho hle (h _ (upd_same _ _ _) fun _ ht => upd_ne _ _ ht)
theorem g_bs0 {i j : TI} {l : List D} (hi : Θ t = some i) (hk : i.k = .slice e) (hj : Θ e = some j) (hz : j.z = some l) (hl : l.length = j.sz) (hpos : 0 < j.sz) (h : ∀ o1, o1 nk = some (.row e j.sz []) → (∀ t, t ≠ nk → o1 t = o t) → K (.row nk) o1 (nk + 1)) : vOp P Θ (.buildSlice t 0 #[]) ⟨sl, o, nk⟩ K :=
  o_bs0 hi hk hj hz hl hpos (h _ (upd_same _ _ _) fun _ ht => upd_ne _ _ ht)
theorem g_mm (h : ∀ o1, o1 nk = some (.raw (setOb [])) → (∀ t, t ≠ nk → o1 t = o t) → K (.raw nk) o1 (nk + 1)) : vOp P Θ (.makeMap t none) ⟨sl, o, nk⟩ K :=
  .inl ⟨rfl, h _ (upd_same _ _ _) fun _ ht => upd_ne _ _ ht⟩
theorem g_mu {kt : Nat} {i j : TI} {q : Nat} {ks : List (List UInt8)} {k : List UInt8} {m : Operand} (hm : ev sl m = .raw q) (hx : ev sl x = .d (.str k)) (hy : ev sl y = .d (.bool true)) (hi : Θ t = some i) (hk : i.k = .map kt e) (hj : Θ kt = some j) (hjk : j.k = .str) (hq : o q = some (.raw (setOb ks))) (hin : k ∉ ks)
    (h : ∀ o1, o1 q = some (.raw (setOb (ks ++ [k]))) → (∀ t, t ≠ q → o1 t = o t) → K .any o1 nk) : vOp P Θ (.mapUpdate t m x y) ⟨sl, o, nk⟩ K :=
  .inl ⟨kt, e, i, j, q, ks, k, hi, hk, hj, hjk, hm, hq, hx, hy, hin, h _ (upd_same _ _ _) fun _ ht => upd_ne _ _ ht⟩
theorem sl_nstr {z : Nat} {ys : List D} : ∀ b, (SV.d (.sl z ys)) ≠ .d (.str b) := by intro b h; cases h
theorem g_ap {i j : TI} {l xs ys : List D} {q z : Nat} (hx : ev sl x = .row q) (hy : ev sl y = .d (.sl z ys)) (hi : Θ t = some i) (hk : i.k = .slice e) (hj : Θ e = some j) (hz : j.z = some l) (hl : l.length = j.sz) (hpos : 0 < j.sz) (hzz : z = j.sz) (ho : o q = some (.row e j.sz xs))
    (h63 : xs.length + ys.length ≤ 9223372036854775807) (hby : (xs.length + ys.length) * j.bys ≤ 140737488355328) (h : ∀ o1, o1 nk = some (.row e j.sz (xs ++ ys)) → (∀ t, t ≠ nk → t ≠ q → o1 t = o t) → K (.row nk) o1 (nk + 1)) : vOp P Θ (.call { callee := .builtin .append, args := #[x, y], argTypes := #[t, t] }) ⟨sl, o, nk⟩ K := by
  refine o_ap (q := some q) hi hk hj hz hl hpos (by rw [hx]; simp [dstOf, ho]) (by rw [hy]; exact sl_nstr) (by rw [hy]; simp [srcOf, hzz]) h63 hby (h _ (upd_same _ _ _) fun u h1 h2 => ?_)
  rw [upd_ne _ _ h1]
  exact upd_ne _ _ h2
/-- Onto nothing or a row. -/
theorem g_apD {i j : TI} {l xs ys : List D} {q : Option Nat} {z : Nat} (hd : dstOf o e j.sz (ev sl x) = some (q, xs)) (hy : ev sl y = .d (.sl z ys)) (hi : Θ t = some i) (hk : i.k = .slice e) (hj : Θ e = some j) (hz : j.z = some l) (hl : l.length = j.sz) (hpos : 0 < j.sz) (hzz : z = j.sz)
    (h63 : xs.length + ys.length ≤ 9223372036854775807) (hby : (xs.length + ys.length) * j.bys ≤ 140737488355328) (h : ∀ o1, o1 nk = some (.row e j.sz (xs ++ ys)) → (∀ t, t ≠ nk → some t ≠ q → o1 t = o t) → K (.row nk) o1 (nk + 1)) : vOp P Θ (.call { callee := .builtin .append, args := #[x, y], argTypes := #[t, t] }) ⟨sl, o, nk⟩ K := by
  refine o_ap (q := q) hi hk hj hz hl hpos hd (by rw [hy]; exact sl_nstr) (by rw [hy]; simp [srcOf, hzz]) h63 hby (h _ (upd_same _ _ _) fun u h1 h2 => ?_)
  rw [upd_ne _ _ h1]
  cases q with
  | none => rfl
  | some v => exact upd_ne _ _ fun e => h2 (by rw [e])
theorem dst_row {e z q : Nat} {xs : List D} (h : o q = some (.row e z xs)) : dstOf o e z (.row q) = some (some q, xs) := by simp [dstOf, h]
end

/-! ### nil in place of an empty slice -/
mutual
def D.le : D → D → Prop
  | .nil, .nil => True
  | .nil, .sl _ ys => ys = []
  | .sl z xs, .sl z' ys => z = z' ∧ D.les xs ys
  | .agg xs, .agg ys => D.les xs ys
  | .int k n, .int k' n' => k = k' ∧ n = n'
  | .bool b, .bool b' => b = b'
  | .str s, .str s' => s = s'
  | .nilp, .nilp => True
  | .nilk k, .nilk k' => k = k'
  | _, _ => False
def D.les : List D → List D → Prop
  | [], [] => True
  | x :: xs, y :: ys => D.le x y ∧ D.les xs ys
  | _, _ => False
end
mutual
theorem D.le_refl : ∀ x : D, D.le x x
  | .nil => by simp [D.le]
  | .sl z xs => by simp [D.le, D.les_refl xs]
  | .agg xs => by simp [D.le, D.les_refl xs]
  | .int k n => by simp [D.le]
  | .bool b => by simp [D.le]
  | .str s => by simp [D.le]
  | .nilp => by simp [D.le]
  | .nilk k => by simp [D.le]
theorem D.les_refl : ∀ xs : List D, D.les xs xs
  | [] => by simp [D.les]
  | x :: xs => by simp [D.les, D.le_refl x, D.les_refl xs]
end
theorem D.les_length : ∀ {xs ys : List D}, D.les xs ys → xs.length = ys.length
  | [], [], _ => rfl
  | x :: xs, y :: ys, h => by simp only [D.les] at h; simp [D.les_length h.2]
  | [], y :: ys, h => by simp [D.les] at h
  | x :: xs, [], h => by simp [D.les] at h
theorem D.les_get : ∀ {xs ys : List D}, D.les xs ys → ∀ (i : Nat) (y : D), ys[i]? = some y → ∃ x, xs[i]? = some x ∧ D.le x y
  | [], [], _, i, y, h => by simp at h
  | x :: xs, y0 :: ys, h, 0, y, hy => by
    simp only [D.les] at h
    simp only [List.getElem?_cons_zero, Option.some.injEq] at hy
    subst hy
    exact ⟨x, rfl, h.1⟩
  | x :: xs, y0 :: ys, h, i + 1, y, hy => by
    simp only [D.les] at h
    exact D.les_get h.2 i y (by simpa using hy)
  | [], y :: ys, h, _, _, _ => by simp [D.les] at h
  | x :: xs, [], h, _, _, _ => by simp [D.les] at h
theorem D.le_leaf {x y : D} (h : D.le x y) : x.leaf = y.leaf := by
  cases x <;> cases y <;> simp_all [D.le, D.leaf]
theorem D.les_leaf : ∀ {xs ys : List D}, D.les xs ys → xs.all D.leaf = true → ys.all D.leaf = true
  | [], [], _, _ => rfl
  | x :: xs, y :: ys, h, hl => by
    simp only [D.les] at h
    simp only [List.all_cons, Bool.and_eq_true] at hl ⊢
    exact ⟨by rw [← D.le_leaf h.1]; exact hl.1, D.les_leaf h.2 hl.2⟩
  | [], y :: ys, h, _ => by simp [D.les] at h
  | x :: xs, [], h, _ => by simp [D.les] at h
theorem Rd.le {w : World} {S : Nat → Prop} {x : D} {v : Value} (h : Rd w S x v) : ∀ {y : D}, D.le x y → Rd w S y v := by
  induction h with
  | int k n => intro y hy; cases y <;> simp [D.le] at hy; obtain ⟨rfl, rfl⟩ := hy; exact .int _ _
  | bool b => intro y hy; cases y <;> simp [D.le] at hy; subst hy; exact .bool _
  | str s hm => intro y hy; cases y <;> simp [D.le] at hy; subst hy; exact .str _ hm
  | nilp => intro y hy; cases y <;> simp [D.le] at hy; exact .nilp
  | nilk k => intro y hy; cases y <;> simp [D.le] at hy; subst hy; exact .nilk _
  | nil =>
    intro y hy; cases y <;> simp [D.le] at hy
    · subst hy; exact .emp _ _ _ (by omega)
    · exact .nil
  | emp z A c hm =>
    intro y hy; cases y <;> simp [D.le] at hy
    obtain ⟨rfl, h2⟩ := hy
    have := D.les_length h2
    have : _ = ([] : List D) := List.eq_nil_of_length_eq_zero (by simpa using this.symm)
    subst this
    exact .emp _ _ _ hm
  | sl z xs a c vs hl hm hS hv hr hz hc ih =>
    intro y hy; cases y <;> simp [D.le] at hy
    rename_i z' ys
    obtain ⟨rfl, h2⟩ := hy
    have hlen := D.les_length h2
    rw [hlen]
    exact .sl _ ys a c vs (by omega) hm hS (by omega) (fun i y u h3 h4 => by
      obtain ⟨x, h5, h6⟩ := D.les_get h2 i y h3
      exact ih i x u h5 h4 h6) hz hc
  | agg xs vs hl hv hr ih =>
    intro y hy; cases y <;> simp [D.le] at hy
    rename_i ys
    have hlen := D.les_length hy
    exact .agg ys vs (D.les_leaf hy hl) (by omega) (fun i y u h3 h4 => by
      obtain ⟨x, h5, h6⟩ := D.les_get hy i y h3
      exact ih i x u h5 h4 h6)
def SV.le : SV → SV → Prop
  | .d x, .d y => D.le x y
  | a, b => a = b
theorem SR.le {w : World} {S : Nat → Prop} {γ : Nat → Value} {o : Nat → Option AO} {a b : SV} {v : Value} (h : SR w S γ o a v) (hl : a.le b) : SR w S γ o b v := by
  unfold SV.le at hl
  split at hl
  · cases h with
    | d _ _ hr => exact .d _ _ (hr.le hl)
  · exact hl ▸ h
def SV.les : List SV → List SV → Prop
  | [], [] => True
  | x :: xs, y :: ys => SV.le x y ∧ SV.les xs ys
  | _, _ => False
theorem SV.les_length : ∀ {xs ys : List SV}, SV.les xs ys → xs.length = ys.length
  | [], [], _ => rfl
  | x :: xs, y :: ys, h => by simp only [SV.les] at h; simp [SV.les_length h.2]
  | [], y :: ys, h => by simp [SV.les] at h
  | x :: xs, [], h => by simp [SV.les] at h
theorem SV.les_get : ∀ {xs ys : List SV}, SV.les xs ys → ∀ (i : Nat) (y : SV), ys[i]? = some y → ∃ x, xs[i]? = some x ∧ SV.le x y
  | [], [], _, i, y, h => by simp at h
  | x :: xs, y0 :: ys, h, 0, y, hy => by
    simp only [SV.les] at h
    simp only [List.getElem?_cons_zero, Option.some.injEq] at hy
    subst hy
    exact ⟨x, rfl, h.1⟩
  | x :: xs, y0 :: ys, h, i + 1, y, hy => by
    simp only [SV.les] at h
    exact SV.les_get h.2 i y (by simpa using hy)
  | [], y :: ys, h, _, _, _ => by simp [SV.les] at h
  | x :: xs, [], h, _, _, _ => by simp [SV.les] at h
theorem SV.le_lt {n : Nat} {a b : SV} (h : a.le b) (hl : a.lt n) : b.lt n := by
  unfold SV.le at h
  split at h
  · trivial
  · exact h ▸ hl
theorem Spec.le {P : Program} {f : FuncId} {args args' : List SV} {o : Nat → Option AO} {nk : Nat} {Q : SV → (Nat → Option AO) → Nat → Prop} (h : Spec P f args' o nk Q) (hl : SV.les args args') : Spec P f args o nk Q := fun w S γ vs h1 h2 h3 h4 => by
  refine h w S γ vs h1 (h2.trans (SV.les_length hl)) (fun i c v hc hv => ?_) (lts_of fun i c hc => ?_)
  · obtain ⟨x, h5, h6⟩ := SV.les_get hl i c hc
    exact (h3 i x v h5 hv).le h6
  · obtain ⟨x, h5, h6⟩ := SV.les_get hl i c hc
    exact SV.le_lt h6 (lts_get h4 i x h5)
theorem PSpec.le {P : Program} {f : FuncId} {args args' : List SV} {r : SV} (h : PSpec P f args' r) (hl : SV.les args args') : PSpec P f args r := fun o nk => (h o nk).le hl

/-! ### what is known of every datum: no list, no text is longer than can be -/
mutual
def D.bd : D → Prop
  | .sl _ xs => xs.length ≤ 9223372036854775807 ∧ D.bds xs
  | .agg xs => D.bds xs
  | .str s => s.length ≤ 9223372036854775807
  | .int _ _ => True
  | .bool _ => True
  | .nil => True
  | .nilp => True
  | .nilk _ => True
def D.bds : List D → Prop
  | [] => True
  | x :: xs => D.bd x ∧ D.bds xs
end
theorem D.bds_of : ∀ {xs : List D}, (∀ x ∈ xs, D.bd x) → D.bds xs
  | [], _ => trivial
  | x :: xs, h => by
    simp only [D.bds]
    exact ⟨h x (by simp), D.bds_of fun y hy => h y (by simp [hy])⟩
theorem Rd.bd {w : World} {S : Nat → Prop} {x : D} {v : Value} (h : Rd w S x v) : x.bd := by
  induction h with
  | int k n => trivial
  | bool b => trivial
  | str s hm => exact hm
  | nilp => trivial
  | nil => trivial
  | nilk k => trivial
  | emp z A c hm => exact ⟨by simp, trivial⟩
  | sl z xs a c vs hl hm hS hv hr hz hc ih =>
    refine ⟨by omega, D.bds_of fun x hx => ?_⟩
    obtain ⟨i, hi⟩ := List.getElem?_of_mem hx
    have hlt : i < xs.length := (List.getElem?_eq_some_iff.1 hi).1
    exact ih i x (vs[i]'(by omega)) hi (List.getElem?_eq_getElem _)
  | agg xs vs hl hv hr ih =>
    refine D.bds_of fun x hx => ?_
    obtain ⟨i, hi⟩ := List.getElem?_of_mem hx
    have hlt : i < xs.length := (List.getElem?_eq_some_iff.1 hi).1
    exact ih i x (vs[i]'(by omega)) hi (List.getElem?_eq_getElem _)
def SV.bd : SV → Prop
  | .d x => x.bd
  | .el x => x.bd
  | _ => True
def SV.bds : List SV → Prop
  | [] => True
  | x :: xs => SV.bd x ∧ SV.bds xs
theorem SR.bd {w : World} {S : Nat → Prop} {γ : Nat → Value} {o : Nat → Option AO} {c : SV} {v : Value} (h : SR w S γ o c v) : c.bd := by
  cases h with
  | d _ _ hr => exact hr.bd
  | el _ _ _ _ hr => exact hr.bd
  | _ => trivial
theorem SV.bds_of : ∀ {xs : List SV}, (∀ (i : Nat) (c : SV), xs[i]? = some c → SV.bd c) → SV.bds xs
  | [], _ => trivial
  | x :: xs, h => ⟨h 0 x rfl, SV.bds_of fun i c hc => h (i + 1) c (by simpa using hc)⟩
theorem Spec.bd {P : Program} {f : FuncId} {args : List SV} {o : Nat → Option AO} {nk : Nat} {Q : SV → (Nat → Option AO) → Nat → Prop} (h : SV.bds args → Spec P f args o nk Q) : Spec P f args o nk Q := fun w S γ vs h1 h2 h3 h4 =>
  h (SV.bds_of fun i c hc => (h3 i c (vs[i]'(by have := (List.getElem?_eq_some_iff.1 hc).1; omega)) hc (List.getElem?_eq_getElem _)).bd) w S γ vs h1 h2 h3 h4
theorem PSpec.bd {P : Program} {f : FuncId} {args : List SV} {r : SV} (h : SV.bds args → PSpec P f args r) : PSpec P f args r := fun o nk => Spec.bd fun hb => h hb o nk
/-- It answers a row of its own. -/
def RSpec (P : Program) (f : FuncId) (args : List SV) (e z : Nat) (xs : List D) : Prop := ∀ (o : Nat → Option AO) (nk : Nat), Spec P f args o nk fun r o' nk' => ∃ q, r = .row q ∧ nk ≤ q ∧ q < nk' ∧ o' q = some (.row e z xs) ∧ ∀ t, t < nk → o' t = o t
theorem RSpec.of {P : Program} {f : FuncId} {n : Nat} {ts : List Nat} {c : Code} {args : List SV} {e z : Nat} {xs : List D} (hf : FnOk P f n ts c) (hn : args.length ≤ n)
    (h : ∀ o nk, WP P n nk c ⟨slots args, o, nk⟩ (retQ ts fun r o' nk' => ∃ q, r = .row q ∧ nk ≤ q ∧ q < nk' ∧ o' q = some (.row e z xs) ∧ ∀ t, t < nk → o' t = o t)) : RSpec P f args e z xs := fun o nk => Spec.of_body hf hn (h o nk)
theorem rrow_ok {ts : List Nat} {sl : Nat → SV} {o o0 : Nat → Option AO} {nk nk0 q e z : Nat} {xs : List D} (h1 : resOf ts ⟨sl, o, nk⟩ = .row q) (h2 : nk0 ≤ q) (h3 : q < nk) (h5 : o q = some (.row e z xs)) (h4 : ∀ t, t < nk0 → o t = o0 t) :
    retQ ts (fun r o' nk' => ∃ q, r = .row q ∧ nk0 ≤ q ∧ q < nk' ∧ o' q = some (.row e z xs) ∧ ∀ t, t < nk0 → o' t = o0 t) .ret ⟨sl, o, nk⟩ := ⟨q, h1, h2, h3, h5, h4⟩
theorem o_rcall {P : Program} {Θ : Tab} {K : SV → (Nat → Option AO) → Nat → Prop} {sl : Nat → SV} {o : Nat → Option AO} {nk : Nat} {g : FuncId} {asx : Array Operand} {ts : Array Nat} {us : List SV} {e z : Nat} {xs : List D} (hs : RSpec P g us e z xs) (ha : asx.toList.map (ev sl) = us)
    (h : ∀ q o1 nk1, nk ≤ q → q < nk1 → o1 q = some (.row e z xs) → (∀ t, t < nk → o1 t = o t) → K (.row q) o1 nk1) : vOp P Θ (.call { callee := .value (.func g), args := asx, argTypes := ts }) ⟨sl, o, nk⟩ K :=
  o_call (hs o nk) ha (by rintro r o1 nk1 ⟨q, rfl, h1, h2, h3, h4⟩; exact h q o1 nk1 h1 h2 h3 h4)

/-- It answers a row of its own, and a datum. -/
def RDSpec (P : Program) (f : FuncId) (args : List SV) (e z : Nat) (xs : List D) (d : D) : Prop := ∀ (o : Nat → Option AO) (nk : Nat), Spec P f args o nk fun r o' nk' => ∃ q, r = .tup [.row q, .d d] ∧ nk ≤ q ∧ q < nk' ∧ o' q = some (.row e z xs) ∧ ∀ t, t < nk → o' t = o t
theorem RDSpec.of {P : Program} {f : FuncId} {n : Nat} {ts : List Nat} {c : Code} {args : List SV} {e z : Nat} {xs : List D} {d : D} (hf : FnOk P f n ts c) (hn : args.length ≤ n)
    (h : ∀ o nk, WP P n nk c ⟨slots args, o, nk⟩ (retQ ts fun r o' nk' => ∃ q, r = .tup [.row q, .d d] ∧ nk ≤ q ∧ q < nk' ∧ o' q = some (.row e z xs) ∧ ∀ t, t < nk → o' t = o t)) : RDSpec P f args e z xs d := fun o nk => Spec.of_body hf hn (h o nk)
theorem rrowd_ok {ts : List Nat} {sl : Nat → SV} {o o0 : Nat → Option AO} {nk nk0 q e z : Nat} {xs : List D} {d d' : D} (h1 : resOf ts ⟨sl, o, nk⟩ = .tup [.row q, .d d']) (hd : d' = d) (h2 : nk0 ≤ q) (h3 : q < nk) (h5 : o q = some (.row e z xs)) (h4 : ∀ t, t < nk0 → o t = o0 t) :
    retQ ts (fun r o' nk' => ∃ q, r = .tup [.row q, .d d] ∧ nk0 ≤ q ∧ q < nk' ∧ o' q = some (.row e z xs) ∧ ∀ t, t < nk0 → o' t = o0 t) .ret ⟨sl, o, nk⟩ := ⟨q, by rw [h1, hd], h2, h3, h5, h4⟩
theorem o_rdcall {P : Program} {Θ : Tab} {K : SV → (Nat → Option AO) → Nat → Prop} {sl : Nat → SV} {o : Nat → Option AO} {nk : Nat} {g : FuncId} {asx : Array Operand} {ts : Array Nat} {us : List SV} {e z : Nat} {xs : List D} {d : D} (hs : RDSpec P g us e z xs d) (ha : asx.toList.map (ev sl) = us)
    (h : ∀ q o1 nk1, nk ≤ q → q < nk1 → o1 q = some (.row e z xs) → (∀ t, t < nk → o1 t = o t) → K (.tup [.row q, .d d]) o1 nk1) : vOp P Θ (.call { callee := .value (.func g), args := asx, argTypes := ts }) ⟨sl, o, nk⟩ K :=
  o_call (hs o nk) ha (by rintro r o1 nk1 ⟨q, rfl, h1, h2, h3, h4⟩; exact h q o1 nk1 h1 h2 h3 h4)

/-! ### ends -/
theorem ret_ok {ts : List Nat} {sl : Nat → SV} {o o0 : Nat → Option AO} {nk nk0 : Nat} {x y : D} (h1 : resOf ts ⟨sl, o, nk⟩ = .d y) (h2 : y = x) (h3 : nk0 ≤ nk) (h4 : ∀ t, t < nk0 → o t = o0 t) :
    retQ ts (fun r o' nk' => r = .d x ∧ nk0 ≤ nk' ∧ ∀ t, t < nk0 → o' t = o0 t) .ret ⟨sl, o, nk⟩ := ⟨by rw [h1, h2], h3, h4⟩
theorem wrap_succ {i : Nat} (h : i + 1 ≤ 9223372036854775807) : IntKind.i64.wrap ((i : Int) + 1) = ((i + 1 : Nat) : Int) := by
  rw [wrap_i64 (by omega) (by omega)]; omega
theorem cnt {i : Nat} (h : i + 1 ≤ 9223372036854775807) : SV.d (.int .i64 (IntKind.i64.wrap ((i : Int) + 1))) = SV.d (.int .i64 ((i + 1 : Nat) : Int)) := by rw [wrap_succ h]
theorem ia_map {α β : Type} {xs : List α} {f : α → β} {i : Nat} (h : i < xs.length) : (xs.map f)[((i : Int)).toNat]? = some (f (xs[i]'h)) := by simp [h]
end Go.Proofs.YtpkcbdhjnnnkbaaGreat.Abs

/- The program's data, typed; what its functions answer. -/
set_option linter.unusedVariables false
set_option linter.unusedSimpArgs false
namespace Go.Proofs.YtpkcbdhjnnnkbaaGreat.Abs
open Go

abbrev Str := List UInt8
inductive Val where
  | mk (kind int : Int) (text : Str) (items : List Val) (names : List Str)
def Val.kind : Val → Int | .mk k _ _ _ _ => k
def Val.int : Val → Int | .mk _ i _ _ _ => i
def Val.text : Val → Str | .mk _ _ t _ _ => t
def Val.items : Val → List Val | .mk _ _ _ xs _ => xs
def Val.names : Val → List Str | .mk _ _ _ _ ns => ns

mutual
def encV : Val → D
  | .mk k i t xs ns => .agg [.int .i64 k, .int .i64 i, .str t, .sl 5 (encVs xs), .sl 1 (ns.map .str)]
def encVs : List Val → List D
  | [] => []
  | x :: xs => encV x :: encVs xs
end
theorem encVs_map : ∀ xs, encVs xs = xs.map encV
  | [] => rfl
  | x :: xs => by rw [encVs, encVs_map xs]; rfl
theorem encV_leaf (v : Val) : (encV v).leaf = false := by cases v; rfl
theorem encV_width (v : Val) : (encV v).width = 5 := by cases v; rfl
theorem encVs_length (xs : List Val) : (encVs xs).length = xs.length := by rw [encVs_map]; simp
theorem ia_vs {xs : List Val} {i : Nat} (h : i < xs.length) : (encVs xs)[((i : Int)).toNat]? = some (encV (xs[i]'h)) := by rw [encVs_map]; exact ia_map h
theorem items_lt {k i t xs ns} {j : Nat} (h : j < xs.length) : SizeOf.sizeOf (xs[j]'h) < SizeOf.sizeOf (Val.mk k i t xs ns) := by
  have := List.sizeOf_lt_of_mem (List.getElem_mem h)
  simp only [Val.mk.sizeOf_spec]
  omega

section
variable {P : Program} {Θ : Tab} {K : SV → (Nat → Option AO) → Nat → Prop} {sl : Nat → SV} {o : Nat → Option AO} {nk : Nat} {x y ix : Operand} {t e f : Nat}
theorem o_sclo {g : FuncId} {fs cs : List SV} {asx : Array Operand} {ts : Array Nat} {us : List SV} {r : SV} (hx : ev sl x = .clo g fs cs) (hs : Spec P g us o nk fun r' o' nk' => r' = r ∧ o' = o ∧ nk' = nk) (ha : fs ++ asx.toList.map (ev sl) ++ cs = us) (h : K r o nk) : vOp P Θ (.call { callee := .value x, args := asx, argTypes := ts }) ⟨sl, o, nk⟩ K := by
  refine Or.inl ?_
  subst ha
  refine ⟨g, fs, cs, hx, ?_⟩
  exact hs.mono (by rintro r' o' nk' ⟨rfl, rfl, rfl⟩; exact h)
theorem o_scall {g : FuncId} {asx : Array Operand} {ts : Array Nat} {us : List SV} {r : SV} (hs : Spec P g us o nk fun r' o' nk' => r' = r ∧ o' = o ∧ nk' = nk) (ha : asx.toList.map (ev sl) = us) (h : K r o nk) : vOp P Θ (.call { callee := .value (.func g), args := asx, argTypes := ts }) ⟨sl, o, nk⟩ K :=
  o_call hs ha (by rintro r' o' nk' ⟨rfl, rfl, rfl⟩; exact h)
theorem o_ia_map {α : Type} {i j : TI} {z : Nat} {xs : List α} {g : α → D} {k : IntKind} {m : Nat} (hx : ev sl x = .d (.sl z (xs.map g))) (hy : ev sl ix = .d (.int k (m : Int))) (hi : Θ t = some i) (hk : i.k = .slice e) (hj : Θ e = some j) (hz : z = j.sz) (hlt : m < xs.length) (h : K (.el (g (xs[m]'hlt))) o nk) : vOp P Θ (.indexAddr t x ix) ⟨sl, o, nk⟩ K :=
  o_ia_sl hx hy hi hk hj hz (Int.natCast_nonneg _) (ia_map hlt) h
theorem o_ia_vs {i j : TI} {z : Nat} {xs : List Val} {k : IntKind} {m : Nat} (hx : ev sl x = .d (.sl z (encVs xs))) (hy : ev sl ix = .d (.int k (m : Int))) (hi : Θ t = some i) (hk : i.k = .slice e) (hj : Θ e = some j) (hz : z = j.sz) (hlt : m < xs.length) (h : K (.el (encV (xs[m]'hlt))) o nk) : vOp P Θ (.indexAddr t x ix) ⟨sl, o, nk⟩ K :=
  o_ia_sl hx hy hi hk hj hz (Int.natCast_nonneg _) (ia_vs hlt) h
end

theorem bnd_nat {y d m : Nat} {k : IntKind} (h : m ≤ y) : bndO y d (some (SV.d (.int k (m : Int)))) = some m := by
  show (if (0 : Int) ≤ (m : Int) ∧ (m : Int) ≤ (y : Int) then some (m : Int).toNat else none) = some m
  rw [if_pos ⟨by omega, by omega⟩]; simp

/-! ### short names, for the walks' own simp -/
section
variable {α β : Type} {p : Prop} [Decidable p] {a b : Bool} {m n : Nat}
theorem Q0 {f : α → β} {asx : List α} : (asx.map f).length = asx.length := List.length_map ..
theorem Q1 (xs : List Val) : (encVs xs).length = xs.length := encVs_length xs
theorem Q2 : (decide p = true) = p := decide_eq_true_eq
theorem Q3 : decide p = false ↔ ¬p := decide_eq_false_iff_not
theorem Q4 (b : Bool) : ((!b) = true) = (b = false) := Bool.not_eq_true' b
theorem Q5 (b : Bool) : ((!b) = false) = (b = true) := Bool.not_eq_false' b
theorem Q6 (b : Bool) : (!!b) = b := Bool.not_not b
theorem Q7 : (m : Int) < (n : Int) ↔ m < n := Int.ofNat_lt
theorem Q8 : (m : Int) ≤ (n : Int) ↔ m ≤ n := Int.ofNat_le
theorem Q9 (a b : Bool) : ((a && b) = true) = (a = true ∧ b = true) := Bool.and_eq_true a b
theorem Qa (a b : Bool) : ((a || b) = true) = (a = true ∨ b = true) := Bool.or_eq_true a b
theorem Qb (a b : Bool) : (a || b) = false ↔ a = false ∧ b = false := Bool.or_eq_false_iff
theorem Qc [BEq α] [LawfulBEq α] {x y : α} : (x == y) = true ↔ x = y := beq_iff_eq
theorem Qd [BEq α] [LawfulBEq α] {x y : α} : (x != y) = true ↔ x ≠ y := bne_iff_ne
end
/-! ### texts -/
theorem bAt_eq {l : Str} {i : Nat} (h : i < l.length) : bAt l i = ((l[i]'h).toNat : Int) := by simp [bAt, h]
theorem toNat_eq {c : UInt8} {n : Nat} (hn : n < 256) : ((c.toNat : Int) = (n : Int)) ↔ c = UInt8.ofNat n := by
  constructor
  · intro h
    have h1 : c.toNat = n := by omega
    rw [← h1]; simp
  · intro h
    subst h
    simp; omega

/-- A text that may be a name in a value. -/
def nameV (s : Str) : Bool := decide (1 ≤ s.length ∧ s.length ≤ 32 ∧ s[0]? ≠ some 36 ∧ (46 : UInt8) ∉ s)

theorem all_snoc {α : Type} {xs : List α} {p : α → Bool} {i : Nat} (h : i < xs.length) : (xs.take (i + 1)).all p = ((xs.take i).all p && p (xs[i]'h)) := by
  rw [List.take_succ_eq_append_getElem h, List.all_append, List.all_cons, List.all_nil, Bool.and_true]
theorem all_false {α : Type} {xs : List α} {p : α → Bool} {i : Nat} (h : i < xs.length) (hp : p (xs[i]'h) = false) : xs.all p = false := by
  rw [List.all_eq_false]; exact ⟨_, List.getElem_mem h, by simp [hp]⟩
theorem all_true {α : Type} {xs : List α} {p : α → Bool} {i : Nat} (h : ¬ i < xs.length) (hp : (xs.take i).all p = true) : xs.all p = true := by
  rwa [List.take_of_length_le (by omega)] at hp
theorem items_lt' {k i t xs ns m} {j : Nat} (h : j < xs.length) (hv : SizeOf.sizeOf (Val.mk k i t xs ns) < m + 1) : SizeOf.sizeOf (xs[j]'h) < m := by
  have := items_lt (k := k) (i := i) (t := t) (ns := ns) h; omega

def twiceV (ns : List Str) : Bool := !decide ns.Nodup
/-- What a value's own parts must be, by its kind. -/
def kindOk (k i : Int) (t : Str) (n : Nat) (ns : List Str) : Bool :=
  if k = 1 then decide (i = 0) && decide (t = []) && decide (n = 0) && decide (ns.length = 0)
  else if k = 2 then decide (0 ≤ i) && decide (i ≤ 1) && decide (t = []) && decide (n = 0) && decide (ns.length = 0)
  else if k = 3 then decide (t = []) && decide (n = 0) && decide (ns.length = 0)
  else if k = 4 ∨ k = 5 then decide (i = 0) && decide (n = 0) && decide (ns.length = 0)
  else if k = 6 then decide (i = 0) && decide (t = []) && decide (ns.length = 0)
  else if k = 7 then decide (i = 0) && decide (t = []) && decide (ns.length = n) && !twiceV ns
  else false
mutual
def mayV : Val → Bool
  | .mk k i t xs ns => maysV xs && ns.all nameV && kindOk k i t xs.length ns
def maysV : List Val → Bool
  | [] => true
  | x :: xs => mayV x && maysV xs
end
theorem maysV_all : ∀ xs, maysV xs = xs.all mayV
  | [] => rfl
  | x :: xs => by rw [maysV, maysV_all xs]; rfl
mutual
def depthV : Val → Nat
  | .mk _ _ _ xs _ => depthsV xs + 1
def depthsV : List Val → Nat
  | [] => 0
  | x :: xs => max (depthV x) (depthsV xs)
end
/-- Whether two values are the same. -/
noncomputable instance : DecidableEq Val := fun _ _ => Classical.propDecidable _
noncomputable def sameV (v w : Val) : Bool := decide (v = w)
def pathV (p : List Str) : Bool := p.all nameV && decide (1 ≤ p.length) && decide (p.length ≤ 8)
def beginsV (a b : List Str) : Bool := decide (a <+: b)

theorem twice_true {ns : List Str} {i j : Nat} (hi : i < ns.length) (hj : j < i) (e : ns[i]'hi = ns[j]'(by omega)) : twiceV ns = true := by
  unfold twiceV
  simp only [Bool.not_eq_true', decide_eq_false_iff_not]
  intro hn
  exact (List.pairwise_iff_getElem.1 hn) j i (by omega) hi hj e.symm
theorem twice_false {ns : List Str} (h : ∀ (a b : Nat) (ha : a < ns.length) (hb : b < ns.length), a < b → ns[a] ≠ ns[b]) : twiceV ns = false := by
  unfold twiceV
  simp only [Bool.not_eq_false', decide_eq_true_eq]
  exact List.pairwise_iff_getElem.2 fun i j hi hj hij => h i j hi hj hij

/-- The first place where p holds; -1 if there is none. -/
def firstI {α : Type} (p : α → Bool) (xs : List α) : Int := if xs.any p then (xs.findIdx p : Int) else -1
theorem firstI_at {α : Type} {p : α → Bool} {xs : List α} {i : Nat} (h : i < xs.length) (hp : p (xs[i]'h) = true) (hb : ∀ (j : Nat) (hj : j < xs.length), j < i → p (xs[j]'hj) = false) : firstI p xs = i := by
  have h1 : xs.any p = true := List.any_eq_true.2 ⟨_, List.getElem_mem h, hp⟩
  unfold firstI
  rw [if_pos h1]
  have : xs.findIdx p = i := (List.findIdx_eq h).2 ⟨hp, fun j hj => by simpa using hb j (by omega) hj⟩
  rw [this]
theorem firstI_none {α : Type} {p : α → Bool} {xs : List α} (hb : ∀ (j : Nat) (hj : j < xs.length), p (xs[j]'hj) = false) : firstI p xs = -1 := by
  unfold firstI
  rw [if_neg]
  rw [List.any_eq_true]
  rintro ⟨x, hx, hp⟩
  obtain ⟨j, hj, rfl⟩ := List.mem_iff_getElem.1 hx
  rw [hb j hj] at hp; cases hp
theorem firstI_nn {α : Type} (p : α → Bool) (xs : List α) : decide (0 ≤ firstI p xs) = xs.any p := by
  unfold firstI
  cases h : xs.any p <;> simp
structure Dlt where
  kind : Int
  path : List Str
  value : Val
  n : Int
def encD (d : Dlt) : D := .agg [.int .i64 d.kind, .sl 1 (d.path.map .str), .int .i64 d.value.kind, .int .i64 d.value.int, .str d.value.text, .sl 5 (encVs d.value.items), .sl 1 (d.value.names.map .str), .int .i64 d.n]

def namesV (ns : List Str) : Bool := ns.all nameV && !twiceV ns
theorem names_bad {ns : List Str} {i : Nat} (h : i < ns.length) (hb : (!nameV (ns[i]'h) || decide (ns[i]'h ∈ ns.take i)) = true) : namesV ns = false := by
  unfold namesV
  rw [Bool.or_eq_true] at hb
  rcases hb with hb | hb
  · rw [all_false h (by simpa using hb)]; rfl
  · have hm : ns[i]'h ∈ ns.take i := by simpa using hb
    obtain ⟨j, hj, he⟩ := List.mem_iff_getElem.1 hm
    have hji : j < i := by simp at hj; omega
    rw [List.getElem_take] at he
    rw [twice_true h hji he.symm]; simp
theorem names_good {ns : List Str} (h1 : ns.all nameV = true) (h2 : ns.Nodup) : namesV ns = true := by
  unfold namesV twiceV
  simp [h1, h2]
theorem nodup_snoc {ns : List Str} {i : Nat} (h : i < ns.length) (hn : (ns.take i).Nodup) (hb : ns[i]'h ∉ ns.take i) : (ns.take (i + 1)).Nodup := by
  rw [List.take_succ_eq_append_getElem h]
  rw [List.nodup_append]
  refine ⟨hn, by simp, ?_⟩
  intro a ha b hb' e
  simp only [List.mem_singleton] at hb'
  subst hb'; subst e; exact hb ha

/-- The groups of a number: seven bits each, the least first. -/
def grp (u : Nat) : Str := if h : u < 128 then [UInt8.ofNat u] else UInt8.ofNat (u % 128 + 128) :: grp (u / 128)
termination_by u
decreasing_by omega
theorem grp_lt {u : Nat} (h : u < 128) : grp u = [UInt8.ofNat u] := by rw [grp, dif_pos h]
theorem grp_ge {u : Nat} (h : ¬ u < 128) : grp u = UInt8.ofNat (u % 128 + 128) :: grp (u / 128) := by rw [grp, dif_neg h]
theorem grp_len (n : Nat) : ∀ u, u < 128 ^ n → 1 ≤ n → (grp u).length ≤ n := by
  induction n with
  | zero => intro u _ h; omega
  | succ n ih =>
    intro u hu _
    by_cases h : u < 128
    · rw [grp_lt h]; simp
    · rw [grp_ge h, List.length_cons]
      have hn : 1 ≤ n := by
        rcases Nat.eq_zero_or_pos n with rfl | h'
        · simp at hu; omega
        · exact h'
      have := ih (u / 128) (by rw [Nat.pow_succ] at hu; omega) hn
      omega
theorem wrap_u64 {m : Int} (h1 : 0 ≤ m) (h2 : m < 18446744073709551616) : IntKind.u64.wrap m = m := by
  simp only [IntKind.wrap, IntKind.bits, IntKind.signed]
  simp
  omega
theorem wrap_u8 (m : Int) : IntKind.u8.wrap m = m % 256 := by
  simp [IntKind.wrap, IntKind.bits, IntKind.signed]
theorem bytesD_snoc (l : Str) (c : UInt8) : bytesD l ++ [.int .u8 c.toNat] = bytesD (l ++ [c]) := by simp [bytesD]
theorem bytesD_length (l : Str) : (bytesD l).length = l.length := by simp [bytesD]

def valCells (v : Val) : List D := [.int .i64 v.kind, .int .i64 v.int, .str v.text, .sl 5 (encVs v.items), .sl 1 (v.names.map .str)]
theorem encV_eq (v : Val) : encV v = .agg (valCells v) := by cases v; rfl
theorem pv {P : Program} {f : FuncId} {v : Val} {r : SV} (h : PSpec P f [.d (encV v)] r) : PSpec P f [.d (.agg (valCells v))] r := encV_eq v ▸ h

/-- How much a value holds. -/
def szN : List Str → Nat
  | [] => 0
  | s :: r => s.length + 1 + szN r
mutual
def szV : Val → Nat
  | .mk _ _ t xs ns => 1 + t.length + szVs xs + szN ns
def szVs : List Val → Nat
  | [] => 0
  | x :: xs => szV x + szVs xs
end
theorem szV_pos (v : Val) : 1 ≤ szV v := by cases v; simp only [szV]; omega
theorem szVs_get : ∀ {xs : List Val} {j : Nat} (h : j < xs.length), szV (xs[j]'h) ≤ szVs xs
  | x :: xs, 0, _ => by simp [szVs]
  | x :: xs, j + 1, h => by
    have := szVs_get (xs := xs) (j := j) (by simpa using h)
    simp only [szVs, List.getElem_cons_succ]
    omega
theorem szVs_len : ∀ xs : List Val, xs.length ≤ szVs xs
  | [] => by simp
  | x :: xs => by
    have := szVs_len xs
    have := szV_pos x
    simp only [szVs, List.length_cons]
    omega
theorem szN_get : ∀ {xs : List Str} {j : Nat} (h : j < xs.length), (xs[j]'h).length ≤ szN xs
  | x :: xs, 0, _ => by simp [szN]; omega
  | x :: xs, j + 1, h => by
    have := szN_get (xs := xs) (j := j) (by simpa using h)
    simp only [szN, List.getElem_cons_succ]
    omega
theorem szN_len : ∀ xs : List Str, xs.length ≤ szN xs
  | [] => by simp
  | x :: xs => by
    have := szN_len xs
    simp only [szN, List.length_cons]
    omega
theorem depthsV_snoc : ∀ {xs : List Val} {i : Nat} (h : i < xs.length), depthsV (xs.take (i + 1)) = max (depthsV (xs.take i)) (depthV (xs[i]'h))
  | x :: xs, 0, _ => by simp [depthsV]
  | x :: xs, i + 1, h => by
    have := depthsV_snoc (xs := xs) (i := i) (by simpa using h)
    simp only [List.take_succ_cons, depthsV, this, List.getElem_cons_succ]
    omega
mutual
theorem depth_sz : ∀ v : Val, depthV v ≤ szV v
  | .mk k i t xs ns => by
    have := depths_sz xs
    simp only [depthV, szV]
    omega
theorem depths_sz : ∀ xs : List Val, depthsV xs ≤ szVs xs
  | [] => by simp [depthsV]
  | x :: xs => by
    have h1 := depth_sz x
    have h2 := depths_sz xs
    simp only [depthsV, szVs]
    omega
end
end Go.Proofs.YtpkcbdhjnnnkbaaGreat.Abs

/- Functions whose results lie in memory. -/
set_option linter.unusedVariables false
set_option linter.unusedSimpArgs false
namespace Go.Proofs.YtpkcbdhjnnnkbaaGreat.Abs
open Go

section
variable {P : Program} {Θ : Tab} {s : St} {a : Act} {w : World} {S : Nat → Prop} {γ : Nat → Value} {op : Oper}
theorem load_now (hΘ : TabOk P Θ) (hf : Fr s a w S γ) {t : TypeId} {x : Operand} {K : SV → Prop} (ho : op.op = .load t x) (h : ldOp Θ s.o t (ev s.sl x) K) :
    ∃ v u, (execOp a.eval op).run P w = .ok (.value u) w ∧ SR w S γ s.o v u ∧ v.lt s.nk ∧ K v := by
  obtain ⟨i, hi, h⟩ := h
  have hT := hΘ t i hi
  have hx := hf.ev x
  have hlx := hf.lt x
  generalize Abs.ev s.sl x = c at h hx hlx
  have hrun : (execOp a.eval op).run P w = ((Instr.loadAt t (a.eval x)).run P w).andThen fun u w' => .ok (.value u) w' := by simp [execOp, ho]
  generalize a.eval x = ux at hx hrun
  cases c with
  | loc k f =>
    obtain ⟨cs, hk, h⟩ := h
    obtain ⟨⟨g, arr, ty, h1, h2, h3, h4⟩, hl⟩ := hf.sto.box k cs hk
    cases hx with
    | loc _ _ v hv =>
      obtain ⟨g', h5, h6⟩ := hv cs hk
      rw [h1] at h5
      simp at h5
      subst h5
      by_cases hag : i.k.agg = true
      · rw [if_pos hag] at h
        have hlen : ((cs.drop f).take i.sz).length = i.sz := by
          rcases h with ⟨ds, h7, h8, _⟩ | ⟨h7, _⟩
          · rw [allD_spec h7]; simp [h8]
          · exact h7
        let us := ((arr.toList.drop f).take i.sz)
        have hus : us.length = i.sz := by
          simp only [us, List.length_take, List.length_drop, Array.length_toList, h3] at hlen ⊢
          exact hlen
        have hcell : ∀ j u, us[j]? = some u → arr[f + j]? = some u ∧ j < i.sz := by
          intro j u hu
          have hj : j < i.sz := by rw [← hus]; exact (List.getElem?_eq_some_iff.1 hu).1
          simp only [us, List.getElem?_take, List.getElem?_drop] at hu
          rw [if_pos hj] at hu
          exact ⟨by simpa using hu, hj⟩
        have hl2 : (loadCells ⟨g, f, none⟩ us.length).run P w = .ok us.toArray w :=
          run_loadCells_list (P := P) w ⟨g, f, none⟩ us (fun j u hu => by rw [Addr.add_mid, cell_at h2]; exact (hcell j u hu).1)
        rcases h with ⟨ds, h7, h8, h9, hK⟩ | ⟨_, hall, hK⟩
        rotate_left
        · refine ⟨_, .agg us.toArray, ?_, (.ag _ us (by rw [hus, hlen]) (fun j d u hd hu => ?_) ?_), (lts_of fun j c hc => ?_), hK⟩
          · rw [hrun, h6]
            rw [hus] at hl2
            simp [Instr.loadAt, Instr.sureAddr, loadVar, hT.run_agg, hag, hT.run_size, hl2]
          · obtain ⟨h11, h12⟩ := hcell j u hu
            have h13 : cs[f + j]? = some d := by
              simpa [List.getElem?_take, List.getElem?_drop, h12] using hd
            exact h4 _ _ _ h13 h11
          · intro u hu
            obtain ⟨j, hj⟩ := List.getElem?_of_mem hu
            obtain ⟨h11, h12⟩ := hcell j u hj
            have hlt : j < ((cs.drop f).take i.sz).length := by rw [hlen]; exact h12
            have hd := List.getElem?_eq_getElem hlt
            have h13 : cs[f + j]? = some (((cs.drop f).take i.sz)[j]'hlt) := by
              rw [← hd]; simp [List.getElem?_take, List.getElem?_drop, h12]
            exact oneC_one (h4 _ _ _ h13 h11) (List.all_eq_true.1 hall _ (List.getElem_mem hlt))
          · have hm := List.mem_of_mem_drop (List.mem_of_mem_take (List.mem_of_getElem? hc))
            obtain ⟨q, hq⟩ := List.getElem?_of_mem hm
            exact lts_get hl q c hq
        have h10 := allD_spec h7
        refine ⟨_, .agg us.toArray, ?_, .d _ _ (.agg ds us h9 (by rw [hus, h8]) fun j d u hd hu => ?_), trivial, hK⟩
        · rw [hrun, h6]
          rw [hus] at hl2
          simp [Instr.loadAt, Instr.sureAddr, loadVar, hT.run_agg, hag, hT.run_size, hl2]
        · obtain ⟨h11, h12⟩ := hcell j u hu
          have h13 : cs[f + j]? = some (.d d) := by
            have : ((cs.drop f).take i.sz)[j]? = some (.d d) := by rw [h10, List.getElem?_map, hd]; rfl
            simpa [List.getElem?_take, List.getElem?_drop, h12] using this
          cases h4 _ _ _ h13 h11 with
          | d _ _ hr => exact hr
      · rw [if_neg hag] at h
        obtain ⟨c, h7, hK⟩ := h
        have hlt : f < arr.size := by rw [h3]; exact (List.getElem?_eq_some_iff.1 h7).1
        have hcell : w.cell? ⟨g, f, none⟩ = some arr[f] := by rw [cell_at h2]; simp [hlt]
        refine ⟨_, arr[f], ?_, (h4 f c _ h7 (by simp [hlt])), (lts_get hl f c h7), hK⟩
        rw [hrun, h6]
        simp [Instr.loadAt, Instr.sureAddr, loadVar, hT.run_agg, hag, hcell]
  | el x0 =>
    obtain ⟨h1, h2, hK⟩ := h
    cases hx with
    | el _ ad v hS hr hc =>
      by_cases hag : i.k.agg = true
      · rw [hag] at h1
        cases hr with
        | agg xs vs h3 h4 h5 =>
          have hl2 : (loadCells ad vs.length).run P w = .ok vs.toArray w :=
            run_loadCells_list (P := P) w ad vs (fun j u hu => hc j u (by simpa [Value.cells] using hu))
          have hsz : vs.length = i.sz := by rw [h4]; exact h2
          rw [hsz] at hl2
          refine ⟨_, .agg vs.toArray, ?_, .d _ _ (.agg xs vs h3 h4 h5), trivial, hK⟩
          rw [hrun]
          simp [Instr.loadAt, Instr.sureAddr, loadVar, hT.run_agg, hag, hT.run_size, hl2]
        | _ => simp [D.leaf] at h1
      · simp only [Bool.not_eq_true] at hag
        rw [hag] at h1
        have hone := hr.leaf_cells (by simpa using h1)
        have hcell : w.cell? ad = some v := by
          have := hc 0 v (by rw [hone]; rfl)
          simpa [Addr.add] using this
        refine ⟨_, v, ?_, .d _ _ hr, trivial, hK⟩
        rw [hrun]
        simp [Instr.loadAt, Instr.sureAddr, loadVar, hT.run_agg, hag, hcell]
  | _ => exact h.elim
end

/-- What a result is, seen from a state. -/
def ResIs (Θ : Tab) (s : St) (r : ResultVar) (v : SV) : Prop :=
  match r with
  | .tmp t => v = s.sl t
  | .cell a t => (∃ k f, s.sl a = .loc k f) ∧ ldOp Θ s.o t (s.sl a) fun x => x = v
def ResL (Θ : Tab) (s : St) : List ResultVar → List SV → Prop
  | [], [] => True
  | r :: rs, v :: vs => ResIs Θ s r v ∧ ResL Θ s rs vs
  | _, _ => False
theorem ResL.length {Θ : Tab} {s : St} : ∀ {rs : List ResultVar} {vs : List SV}, ResL Θ s rs vs → rs.length = vs.length
  | [], [], _ => rfl
  | r :: rs, v :: vs, h => by simp [ResL.length h.2]
  | [], v :: vs, h => h.elim
  | r :: rs, [], h => h.elim

def resF (tmps : Array Value) : ResultVar → Sem Value
  | .tmp t => pure (tmps.getD t undef)
  | .cell a t => do loadVar t (← asAddr (tmps.getD a undef))

theorem load_res {P : Program} {Θ : Tab} {s : St} {a : Act} {w : World} {S : Nat → Prop} {γ : Nat → Value} (hΘ : TabOk P Θ) (hf : Fr s a w S γ) {x t : Nat} {v : SV} (h : ResIs Θ s (.cell x t) v) :
    ∃ u, (resF a.tmps (.cell x t)).run P w = .ok u w ∧ SR w S γ s.o v u ∧ v.lt s.nk := by
  obtain ⟨⟨k, f, hk⟩, hl⟩ := h
  obtain ⟨v', u, hr, h3, h4, hv⟩ := load_now (op := { dst := none, op := .load t (.tmp x), type := 0, pos := default, after := #[], guard := none }) hΘ hf rfl (K := fun y => y = v) hl
  subst hv
  refine ⟨u, ?_, h3, h4⟩
  have hsl := hf.sl x
  rw [hk] at hsl hl
  obtain ⟨i, hi, cs, hcs, _⟩ := hl
  generalize hu : a.tmps.getD x undef = ux at hsl
  cases hsl with
  | loc _ _ _ hv =>
    obtain ⟨g, _, rfl⟩ := hv cs hcs
    have hrun : (execOp a.eval { dst := none, op := .load t (.tmp x), type := 0, pos := default, after := #[], guard := none }).run P w = ((loadVar t ⟨g, f, none⟩).run P w).andThen fun u w' => .ok (.value u) w' := by
      have he : a.eval (.tmp x) = .pointer (some ⟨g, f, none⟩) := hu
      simp [execOp, Instr.loadAt, Instr.sureAddr, he]
    have hres : (resF a.tmps (.cell x t)).run P w = (loadVar t ⟨g, f, none⟩).run P w := by
      simp only [resF, hu, asAddr, Sem.run_bind, Sem.run_pure, Result.andThen_ok]
    rw [hres]
    rw [hrun] at hr
    cases hq : (loadVar t ⟨g, f, none⟩).run P w with
    | ok u' w'' =>
      rw [hq] at hr
      simp only [Result.andThen_ok] at hr
      injection hr with e1 e2
      injection e1 with e1
      rw [e1, e2]
    | halt y w'' =>
      rw [hq] at hr
      cases hr

theorem run_rs {P : Program} {Θ : Tab} {s : St} {a : Act} {w : World} {S : Nat → Prop} {γ : Nat → Value} (hΘ : TabOk P Θ) (hf : Fr s a w S γ) : ∀ (rs : List ResultVar) (vs : List SV), ResL Θ s rs vs →
    ∃ us, (rs.mapM (resF a.tmps)).run P w = .ok us w ∧ us.length = vs.length ∧ (∀ (i : Nat) (c : SV) (u : Value), vs[i]? = some c → us[i]? = some u → SR w S γ s.o c u) ∧ SV.lts s.nk vs
  | [], [], _ => ⟨[], by simp, rfl, by simp, trivial⟩
  | [], v :: vs, h => h.elim
  | r :: rs, [], h => h.elim
  | r :: rs, v :: vs, h => by
    obtain ⟨h1, h2⟩ := h
    have hone : ∃ u, (resF a.tmps r).run P w = .ok u w ∧ SR w S γ s.o v u ∧ v.lt s.nk := by
      cases r with
      | tmp t =>
        have e : v = s.sl t := h1
        subst e
        exact ⟨_, by simp [resF], hf.sl t, hf.slt t⟩
      | cell x t => exact load_res hΘ hf h1
    obtain ⟨u, k1, k4, k5⟩ := hone
    obtain ⟨us, m1, m4, m5, m6⟩ := run_rs hΘ hf rs vs h2
    refine ⟨u :: us, ?_, by simp [m4], fun i c x hc hx => ?_, ⟨k5, m6⟩⟩
    · rw [List.mapM_cons]
      simp [k1, m1]
    · cases i with
      | zero =>
        simp only [List.getElem?_cons_zero, Option.some.injEq] at hc hx
        subst hc; subst hx
        exact k4
      | succ i => exact m5 i c x (by simpa using hc) (by simpa using hx)

structure FnOkC (P : Program) (f : FuncId) (n : Nat) (rs : List ResultVar) (c : Code) : Prop where
  mk ::
  out : ∃ fn, P.funcs[f]? = some fn ∧ fn.body = some c ∧ (fn.name == "runtime.NumGoroutine") = false ∧ fn.results.toList = rs ∧ fn.ntmps = n

def tupOf : List SV → SV
  | [v] => v
  | vs => .tup vs
def retC (Θ : Tab) (rs : List ResultVar) (Q : SV → (Nat → Option AO) → Nat → Prop) : Exit → St → Prop
  | .normal, s => ∃ vs, ResL Θ s rs vs ∧ Q (tupOf vs) s.o s.nk
  | .ret, s => ∃ vs, ResL Θ s rs vs ∧ Q (tupOf vs) s.o s.nk
  | _, _ => False

theorem Spec.of_bodyC {P : Program} {Θ : Tab} (hΘ : TabOk P Θ) {f : FuncId} {n : Nat} {rs : List ResultVar} {c : Code} {args : List SV} {o : Nat → Option AO} {nk : Nat} {Q : SV → (Nat → Option AO) → Nat → Prop} (hf : FnOkC P f n rs c) (hn : args.length ≤ n)
    (h : WP P n nk c { sl := slots args, o := o, nk := nk } (retC Θ rs Q)) : Spec P f args o nk Q := by
  intro w S γ vs h1 h2 h3 h4
  obtain ⟨fn, e1, e2, e3, e4, e5⟩ := hf.out
  have hcf : (callFunc f vs.toArray).run P w = .ok (.enter f vs.toArray) w := by
    simp only [beq_eq_false_iff_ne, ne_eq] at e3
    simp [callFunc, e1, e2, e3]
  unfold Does
  rw [hcf]
  refine calls_of_wp e1 e2 ?_
  have hrel : Rel { w := w, S := S, γ := γ, o := o, nk := nk, n := n } { sl := slots args, o := o, nk := nk } { tmps := vs.toArray ++ Array.replicate (fn.ntmps - vs.toArray.size) undef, defers := [] } w := by
    refine ⟨S, γ, h1, Tr.refl _ _ _ _ _, fun u => ?_, fun u => ?_, rfl, by simp; omega⟩
    · simp only [slots]
      rw [List.getD_eq_getElem?_getD]
      cases hu : args[u]? with
      | none => exact .any _
      | some c =>
        have hlt : u < args.length := (List.getElem?_eq_some_iff.1 hu).1
        have hv : vs[u]? = some (vs[u]'(by omega)) := List.getElem?_eq_getElem (by omega)
        have : (vs.toArray ++ Array.replicate (fn.ntmps - vs.toArray.size) undef).getD u undef = vs[u]'(by omega) := by
          simp [Array.getElem?_append, show u < vs.length by omega]
        show SR w S γ o c ((vs.toArray ++ Array.replicate (fn.ntmps - vs.toArray.size) undef).getD u undef)
        rw [this]
        exact h3 u c _ hu hv
    · simp only [slots]
      rw [List.getD_eq_getElem?_getD]
      cases hu : args[u]? with
      | none => trivial
      | some c => exact lts_get h4 u c hu
  refine Go.wp_mono (h _ _ w rfl rfl hrel) ?_
  rintro e a' w' ⟨s', ⟨S', γ', hr⟩, q⟩
  have key : (∃ vs, ResL Θ s' rs vs ∧ Q (tupOf vs) s'.o s'.nk) → a'.defers = [] ∧ ∃ v, (results fn a'.tmps).run P w' = .ok v w' ∧ ∃ u, Ending.returned v = .returned u ∧ Post P w S γ o nk Q u w' := by
    rintro ⟨vs', hrl, q⟩
    obtain ⟨us, m1, m4, m5, m6⟩ := run_rs hΘ hr.fr rs vs' hrl
    have hrs : fn.results = rs.toArray := by apply Array.ext'; simpa using e4
    have hres : (results fn a'.tmps).run P w' = .ok (match us with | [u] => u | us => .tuple us.toArray) w' := by
      unfold results
      rw [hrs, List.mapM_toArray]
      simp only [Sem.run_bind, Sem.run_map]
      refine Eq.trans (congrArg (fun r => Result.andThen (Result.andThen r _) _) m1) ?_
      match us with
      | [] => simp
      | [t] => simp
      | t :: u :: r => simp
    refine ⟨hr.df, _, hres, _, rfl, tupOf vs', s'.o, s'.nk, S', γ', q, hr.sto, hr.tr, ?_, ?_⟩
    · match us, vs', m4, m5 with
      | [], [], _, _ => exact .tup [] [] rfl (by simp)
      | [u], [v], _, h5 => exact h5 0 v u rfl rfl
      | u :: u' :: us, v :: v' :: vs'', h4, h5 => exact .tup _ _ h4 h5
    · match vs', m6 with
      | [], _ => exact trivial
      | [v], h => exact h.1
      | v :: v' :: vs'', h => exact h
  cases e with
  | normal => exact key q
  | ret => exact key q
  | _ => exact q.elim
end Go.Proofs.YtpkcbdhjnnnkbaaGreat.Abs

/- Freezing a row wherever it is named; rows in the cells of variables. -/
set_option linter.unusedVariables false
set_option linter.unusedSimpArgs false
namespace Go.Proofs.YtpkcbdhjnnnkbaaGreat.Abs
open Go

def AO.frz (t : Nat) (x : D) : AO → AO
  | .box cs => .box (cs.map (SV.frz t x))
  | .row e z xs => .row e z xs
  | .raw ob => .raw ob
/-- The objects from k on, row t frozen. -/
def frzo (k : Nat) (o : Nat → Option AO) (t : Nat) (x : D) : Nat → Option AO := fun u => if u = t then none else if u < k then o u else (o u).map (AO.frz t x)
theorem AO.kin_frz (t : Nat) (x : D) (y : AO) : y.kin (y.frz t x) := by cases y <;> simp [AO.frz, AO.kin]
theorem frzo_some {k : Nat} {o : Nat → Option AO} {t : Nat} {x : D} {u : Nat} {y : AO} (h : frzo k o t x u = some y) : u ≠ t ∧ ∃ y0, o u = some y0 ∧ (y = y0 ∧ u < k ∨ y = y0.frz t x) := by
  unfold frzo at h
  split at h
  · cases h
  · rename_i hne
    split at h
    · rename_i hlt; exact ⟨hne, y, h, .inl ⟨rfl, hlt⟩⟩
    · obtain ⟨y0, h1, h2⟩ := Option.map_eq_some_iff.1 h
      exact ⟨hne, y0, h1, .inr h2.symm⟩

theorem Sto.freezeA {w : World} {S : Nat → Prop} {γ : Nat → Value} {o : Nat → Option AO} {nk : Nat} (h : Sto w S γ o nk) (k : Nat) {t : Nat} {e : TypeId} {z : Nat} {xs : List D} (ht : o t = some (.row e z xs)) :
    Sto w (fun b => S b ∨ blk (γ t) = some b) γ (frzo k o t (.sl z xs)) nk ∧ Tr w S γ o nk w (fun b => S b ∨ blk (γ t) = some b) γ (frzo k o t (.sl z xs)) nk ∧
    ∀ c v, SR w S γ o c v → c.lt nk → SR w (fun b => S b ∨ blk (γ t) = some b) γ (frzo k o t (.sl z xs)) (c.frz t (.sl z xs)) v := by
  obtain ⟨k1, k2, k3⟩ := h.freeze ht
  have hup : ∀ u y, u ≠ t → (upd o t none u = some y ↔ o u = some y) := fun u y hne => by rw [upd_ne _ _ hne]
  have hkeys : ∀ u y, u < nk → frzo k o t (.sl z xs) u = some y → ∃ y0, upd o t none u = some y0 ∧ AO.kin y0 y ∧ γ u = γ u := by
    intro u y _ hy
    obtain ⟨hne, y0, h0, h1⟩ := frzo_some hy
    refine ⟨y0, (hup u y0 hne).2 h0, ?_, rfl⟩
    rcases h1 with ⟨rfl, _⟩ | rfl
    · exact AO.kin_refl _
    · exact AO.kin_frz _ _ _
  have hsr : ∀ c v, SR w S γ o c v → c.lt nk → SR w (fun b => S b ∨ blk (γ t) = some b) γ (frzo k o t (.sl z xs)) (c.frz t (.sl z xs)) v := fun c v hr hl =>
    (hr.frz h ht hl).move (nk := nk) (fun _ h => h) (fun _ _ => rfl) hkeys (SV.frz_lt hl)
  have hsr0 : ∀ c v, SR w S γ o c v → c.lt nk → SR w (fun b => S b ∨ blk (γ t) = some b) γ (frzo k o t (.sl z xs)) c v := fun c v hr hl =>
    (hr.tr h k2 hl).move (nk := nk) (fun _ h => h) (fun _ _ => rfl) hkeys hl
  refine ⟨⟨k1.s_lt, ?_, ?_, ?_, ?_, ?_, ?_⟩, ⟨rfl, rfl, rfl, Nat.le_refl _, Nat.le_refl _, fun _ _ _ => rfl, fun _ h => .inl h, k2.s_new, ?_, ?_⟩, hsr⟩
  · intro u y hy
    obtain ⟨hne, y0, h0, _⟩ := frzo_some hy
    exact h.o_lt u y0 h0
  · intro u cs hc
    obtain ⟨hne, y0, h0, h1⟩ := frzo_some hc
    rcases h1 with ⟨rfl, hlt⟩ | h1
    · obtain ⟨⟨g, arr, ty, h4, h5, h6, h7⟩, hl⟩ := h.box u cs h0
      exact ⟨⟨g, arr, ty, h4, h5, h6, fun i c v h8 h9 => hsr0 c v (h7 i c v h8 h9) (lts_get hl i c h8)⟩, hl⟩
    · have : ∃ cs0, y0 = .box cs0 ∧ cs = cs0.map (SV.frz t (.sl z xs)) := by
        cases y0 with
        | box cs0 => simp only [AO.frz, AO.box.injEq] at h1; exact ⟨cs0, rfl, h1⟩
        | row => simp [AO.frz] at h1
        | raw => simp [AO.frz] at h1
      obtain ⟨cs0, rfl, rfl⟩ := this
      obtain ⟨⟨g, arr, ty, h4, h5, h6, h7⟩, hl⟩ := h.box u cs0 h0
      refine ⟨⟨g, arr, ty, h4, h5, by simp [h6], fun i c v h8 h9 => ?_⟩, lts_of fun i c hc => ?_⟩
      · rw [List.getElem?_map] at h8
        obtain ⟨c0, hc0, rfl⟩ := Option.map_eq_some_iff.1 h8
        exact hsr c0 v (h7 i c0 v hc0 h9) (lts_get hl i c0 hc0)
      · rw [List.getElem?_map] at hc
        obtain ⟨c0, hc0, rfl⟩ := Option.map_eq_some_iff.1 hc
        exact SV.frz_lt (lts_get hl i c0 hc0)
  · intro u e' z' ys hy
    obtain ⟨hne, y0, h0, h1⟩ := frzo_some hy
    have : y0 = .row e' z' ys := by
      rcases h1 with ⟨h1, _⟩ | h1
      · exact h1.symm
      · cases y0 <;> simp only [AO.frz] at h1 <;> first | cases h1; rfl | cases h1
    subst this
    exact k1.row u e' z' ys ((hup u _ hne).2 h0)
  · intro u ob hy
    obtain ⟨hne, y0, h0, h1⟩ := frzo_some hy
    have : y0 = .raw ob := by
      rcases h1 with ⟨h1, _⟩ | h1
      · exact h1.symm
      · cases y0 <;> simp only [AO.frz] at h1 <;> first | cases h1; rfl | cases h1
    subst this
    exact k1.raw u ob ((hup u _ hne).2 h0)
  · intro u y g hy hg
    obtain ⟨hne, y0, h0, _⟩ := frzo_some hy
    exact k1.away u y0 g ((hup u y0 hne).2 h0) hg
  · intro u u' y y' g hn hy hy' hg hg'
    obtain ⟨hne, y0, h0, _⟩ := frzo_some hy
    obtain ⟨hne', y0', h0', _⟩ := frzo_some hy'
    exact k1.apart u u' y0 y0' g hn ((hup u y0 hne).2 h0) ((hup u' y0' hne').2 h0') hg hg'
  · rintro g ⟨u, y, hy, hg⟩
    obtain ⟨hne, y0, h0, _⟩ := frzo_some hy
    exact .inr ⟨u, y0, h0, hg⟩
  · intro u y hu hy
    obtain ⟨hne, y0, h0, h1⟩ := frzo_some hy
    refine ⟨y0, h0, ?_, rfl⟩
    rcases h1 with ⟨rfl, _⟩ | rfl
    · exact AO.kin_refl _
    · exact AO.kin_frz _ _ _

theorem Rel.freezeA {E : Ent} {s : St} {a : Act} {w : World} (h : Rel E s a w) (k : Nat) {t : Nat} {e : TypeId} {z : Nat} {xs : List D} (ht : s.o t = some (.row e z xs)) :
    Rel E { sl := fun u => (s.sl u).frz t (.sl z xs), o := frzo k s.o t (.sl z xs), nk := s.nk } a w := by
  obtain ⟨S, γ, h⟩ := h
  obtain ⟨h1, h2, h3⟩ := h.sto.freezeA k ht
  exact ⟨_, γ, h1, h.tr.trans h2, fun u => h3 _ _ (h.sl u) (h.slt u), fun u => SV.frz_lt (h.slt u), h.df, h.nn⟩

/-- Some of the slots; row t frozen, in the variables too. -/
theorem WP.frzL {P : Program} {n k0 : Nat} {Q : Exit → St → Prop} {c : Code} {sl : Nat → SV} {o : Nat → Option AO} {nk : Nat} (l : List (Nat × SV)) (k : Nat) {t : Nat} {e : TypeId} {z : Nat} {xs : List D} (ht : o t = some (.row e z xs))
    (hl : ∀ p ∈ l, (sl p.1).frz t (.sl z xs) = p.2)
    (h : ∀ o1, (∀ u, u ≠ t → u < k → o1 u = o u) → (∀ u, u ≠ t → k ≤ u → o1 u = (o u).map (AO.frz t (.sl z xs))) → WP P n k0 c ⟨al l, o1, nk⟩ Q) : WP P n k0 c ⟨sl, o, nk⟩ Q := by
  refine WP.of (fun E a w _ hr => (hr.freezeA k ht)) (WP.le (Le.al hl) (h (frzo k o t (.sl z xs)) (fun u hu hk => ?_) fun u hu hk => ?_))
  · simp only [frzo]; rw [if_neg hu, if_pos hk]
  · simp only [frzo]; rw [if_neg hu, if_neg (by omega)]

/-- Less is told of a variable's cells. -/
theorem Sto.leBox {w : World} {S : Nat → Prop} {γ : Nat → Value} {o : Nat → Option AO} {nk : Nat} (h : Sto w S γ o nk) {b : Nat} {cs cs' : List SV} (hb : o b = some (.box cs)) (hl : SV.les cs cs') :
    Sto w S γ (upd o b (some (.box cs'))) nk ∧ Tr w S γ o nk w S γ (upd o b (some (.box cs'))) nk ∧ ∀ c v, SR w S γ o c v → c.lt nk → SR w S γ (upd o b (some (.box cs'))) c v := by
  have hkeys : ∀ u y, u < nk → upd o b (some (.box cs')) u = some y → ∃ y0, o u = some y0 ∧ AO.kin y0 y ∧ γ u = γ u := by
    intro u y _ hy
    unfold upd at hy
    split at hy
    · rename_i he
      subst he
      injection hy with hy
      subst hy
      exact ⟨_, hb, trivial, rfl⟩
    · exact ⟨y, hy, AO.kin_refl _, rfl⟩
  have hsome : ∀ u y, upd o b (some (.box cs')) u = some y → ∃ y0, o u = some y0 := by
    intro u y hy
    unfold upd at hy
    split at hy
    · rename_i he; subst he; exact ⟨_, hb⟩
    · exact ⟨y, hy⟩
  have hsr : ∀ c v, SR w S γ o c v → c.lt nk → SR w S γ (upd o b (some (.box cs'))) c v := fun c v hr hlt => hr.move (nk := nk) (fun _ h => h) (fun _ _ => rfl) hkeys hlt
  refine ⟨⟨h.s_lt, ?_, ?_, ?_, ?_, ?_, ?_⟩, ⟨rfl, rfl, rfl, Nat.le_refl _, Nat.le_refl _, fun _ _ _ => rfl, fun _ h => h, fun _ h => .inl h, ?_, hkeys⟩, hsr⟩
  · intro u y hy
    obtain ⟨y0, h0⟩ := hsome u y hy
    exact h.o_lt u y0 h0
  · intro u ds hd
    have key : ∃ cs0, o u = some (.box cs0) ∧ SV.les cs0 ds := by
      unfold upd at hd
      split at hd
      · rename_i he
        subst he
        injection hd with hd
        injection hd with hd
        subst hd
        exact ⟨cs, hb, hl⟩
      · refine ⟨ds, hd, ?_⟩
        clear hd
        induction ds with
        | nil => trivial
        | cons d ds ih =>
          refine ⟨?_, ih⟩
          cases d <;> first | exact D.le_refl _ | rfl
    obtain ⟨cs0, h0, h1⟩ := key
    obtain ⟨⟨g, arr, ty, h4, h5, h6, h7⟩, hlt⟩ := h.box u cs0 h0
    refine ⟨⟨g, arr, ty, h4, h5, by rw [h6, SV.les_length h1], fun i c v h8 h9 => ?_⟩, lts_of fun i c hc => ?_⟩
    · obtain ⟨x, h10, h11⟩ := SV.les_get h1 i c h8
      exact hsr c v ((h7 i x v h10 h9).le h11) (SV.le_lt h11 (lts_get hlt i x h10))
    · obtain ⟨x, h10, h11⟩ := SV.les_get h1 i c hc
      exact SV.le_lt h11 (lts_get hlt i x h10)
  · intro u e z ys hy
    refine h.row u e z ys ?_
    unfold upd at hy
    split at hy
    · cases hy
    · exact hy
  · intro u ob hy
    refine h.raw u ob ?_
    unfold upd at hy
    split at hy
    · cases hy
    · exact hy
  · intro u y g hy hg
    obtain ⟨y0, h0⟩ := hsome u y hy
    exact h.away u y0 g h0 hg
  · intro u u' y y' g hn hy hy' hg hg'
    obtain ⟨y0, h0⟩ := hsome u y hy
    obtain ⟨y0', h0'⟩ := hsome u' y' hy'
    exact h.apart u u' y0 y0' g hn h0 h0' hg hg'
  · rintro g ⟨u, y, hy, hg⟩
    obtain ⟨y0, h0⟩ := hsome u y hy
    exact .inr ⟨u, y0, h0, hg⟩

theorem WP.leB {P : Program} {n k0 : Nat} {Q : Exit → St → Prop} {c : Code} {sl : Nat → SV} {o : Nat → Option AO} {nk : Nat} {b : Nat} {cs : List SV} (cs' : List SV) (hb : o b = some (.box cs)) (hl : SV.les cs cs')
    (h : ∀ o1, o1 b = some (.box cs') → (∀ u, u ≠ b → o1 u = o u) → WP P n k0 c ⟨sl, o1, nk⟩ Q) : WP P n k0 c ⟨sl, o, nk⟩ Q := by
  refine WP.of (fun E a w _ hr => ?_) (h (upd o b (some (.box cs'))) (upd_same _ _ _) fun u hu => upd_ne _ _ hu)
  obtain ⟨S, γ, hr⟩ := hr
  obtain ⟨h1, h2, h3⟩ := hr.sto.leBox hb hl
  exact ⟨S, γ, h1, hr.tr.trans h2, fun u => h3 _ _ (hr.sl u) (hr.slt u), hr.slt, hr.df, hr.nn⟩

/-- The row that lies in a variable's cell, or the nothing that does: frozen. -/
theorem WP.frzC {P : Program} {n k0 : Nat} {Q : Exit → St → Prop} {c : Code} {sl : Nat → SV} {o : Nat → Option AO} {nk : Nat} (l : List (Nat × SV)) (k : Nat) {b e z : Nat} {pre post : List SV} {x : SV} {q : Option Nat} {xs : List D} (hb : o b = some (.box (pre ++ x :: post))) (hx : dstOf o e z x = some (q, xs)) (hkb : k ≤ b)
    (hp : ∀ t, q = some t → pre.map (SV.frz t (.sl z xs)) = pre ∧ post.map (SV.frz t (.sl z xs)) = post) (hl : ∀ t, q = some t → ∀ p ∈ l, (sl p.1).frz t (.sl z xs) = p.2) (hl0 : q = none → ∀ p ∈ l, sl p.1 = p.2)
    (h : ∀ o1, o1 b = some (.box (pre ++ .d (.sl z xs) :: post)) → (∀ u, u < k → q ≠ some u → o1 u = o u) → (∀ u cs, u ≠ b → o u = some (.box cs) → (∀ t, q = some t → cs.map (SV.frz t (.sl z xs)) = cs) → o1 u = some (.box cs)) → WP P n k0 c ⟨al l, o1, nk⟩ Q) : WP P n k0 c ⟨sl, o, nk⟩ Q := by
  cases q with
  | none =>
    have hn : x = .d .nil ∧ xs = [] := by
      unfold dstOf at hx
      split at hx <;> first | cases hx | skip
      · exact ⟨rfl, rfl⟩
      · split at hx
        · split at hx <;> cases hx
        · cases hx
    obtain ⟨rfl, rfl⟩ := hn
    have les_refl : ∀ ds : List SV, SV.les ds ds := fun ds => by
      induction ds with
      | nil => trivial
      | cons d ds ih =>
        refine ⟨?_, ih⟩
        cases d <;> first | exact D.le_refl _ | rfl
    have hle : SV.les (pre ++ .d .nil :: post) (pre ++ .d (.sl z []) :: post) := by
      clear hb hp hl h
      induction pre with
      | nil => exact ⟨rfl, les_refl post⟩
      | cons d ds ih =>
        refine ⟨?_, ih⟩
        cases d <;> first | exact D.le_refl _ | rfl
    refine WP.le (Le.al (hl0 rfl)) (WP.leB _ hb hle fun o1 h1 h2 => h o1 h1 (fun u hu _ => h2 u (by omega)) fun u cs hu hcs _ => (h2 u hu).trans hcs)
  | some t =>
    have hn : x = .row t ∧ o t = some (.row e z xs) := by
      unfold dstOf at hx
      split at hx <;> first | cases hx | skip
      split at hx
      · split at hx
        · rename_i h1 h2
          simp only [Option.some.injEq, Prod.mk.injEq] at hx
          obtain ⟨rfl, rfl⟩ := hx
          obtain ⟨rfl, rfl⟩ := h2
          exact ⟨rfl, h1⟩
        · cases hx
      · cases hx
    obtain ⟨rfl, ht⟩ := hn
    have hbt : b ≠ t := fun e => by rw [e, ht] at hb; cases hb
    refine WP.frzL l k ht (hl t rfl) fun o1 h1 h2 => h o1 ?_ (fun u hu hq => h1 u (fun e => hq (by rw [e])) hu) fun u cs hu hcs hm => ?_
    rotate_left
    · have hut : u ≠ t := fun e => by rw [e, ht] at hcs; cases hcs
      rcases Nat.lt_or_ge u k with hk | hk
      · rw [h1 u hut hk, hcs]
      · rw [h2 u hut hk, hcs]
        simp only [Option.map_some, AO.frz, hm t rfl]
    rw [h2 b hbt hkb, hb]
    simp only [Option.map_some, AO.frz, List.map_append, List.map_cons, (hp t rfl).1, (hp t rfl).2, SV.frz, if_true]

end Go.Proofs.YtpkcbdhjnnnkbaaGreat.Abs

/- Drawn regions in which objects are made or changed, one behind the other. -/
set_option linter.unusedVariables false
set_option linter.unusedSimpArgs false
namespace Go.Proofs.YtpkcbdhjnnnkbaaGreat.Abs
open Go

/-- What an operation does to the objects: nothing, between two counts of changes; the change of a number. -/
inductive Kd where
  | q (lo hi : Nat)
  | w (j : Nat)
  deriving DecidableEq

/-- What must have run before an operation. -/
def ancs (ops : List Oper) : Nat → List (List Nat)
  | 0 => []
  | n + 1 => ancs ops n ++ [match ops[n]? with
    | some o => (onsOf o ++ (onsOf o).flatMap fun j => (ancs ops n).getD j []).eraseDups
    | none => []]
theorem ancs_length (ops : List Oper) : ∀ n, (ancs ops n).length = n
  | 0 => rfl
  | n + 1 => by simp [ancs, ancs_length ops n]
theorem ancs_closed {ops : List Oper} {listed : Array Bool} (hlt : ∀ (i : Nat) (o : Oper), ops[i]? = some o → ∀ k ∈ onsOf o, k < i)
    (hcl : ∀ (j : Nat) (p : Oper), ops[j]? = some p → listed.getD j false = true → ∀ k ∈ onsOf p, listed.getD k false = true) :
    ∀ n i o, i < n → ops[i]? = some o → (∀ k ∈ onsOf o, listed.getD k false = true) → ∀ k ∈ (ancs ops n).getD i [], listed.getD k false = true
  | 0, i, o, h, _, _, _, _ => by omega
  | n + 1, i, o, h, ho, hon, k, hk => by
    by_cases hi : i < n
    · rw [ancs, List.getD_eq_getElem?_getD, List.getElem?_append_left (by rw [ancs_length]; exact hi), ← List.getD_eq_getElem?_getD] at hk
      exact ancs_closed hlt hcl n i o hi ho hon k hk
    · have : i = n := by omega
      subst this
      rw [ancs, List.getD_eq_getElem?_getD, List.getElem?_append_right (by rw [ancs_length]; exact Nat.le_refl _), ancs_length, Nat.sub_self, ho] at hk
      simp only [List.getElem?_cons_zero, Option.getD_some, List.mem_eraseDups, List.mem_append, List.mem_flatMap] at hk
      rcases hk with hk | ⟨j, hj, hk⟩
      · exact hon k hk
      · have hji := hlt i o ho j hj
        have hjl := hon j hj
        cases hp : ops[j]? with
        | none =>
          have : i < ops.length := (List.getElem?_eq_some_iff.1 ho).1
          have := List.getElem?_eq_none_iff.1 hp
          omega
        | some p => exact ancs_closed hlt hcl i j p hji hp (hcl j p hp hjl) k hk

def ancB (ops : List Oper) (i k : Nat) : Bool := ((ancs ops ops.length).getD i []).contains k

/-- The operations' kinds fit the order. -/
def phOk (ops : List Oper) (kd : List Kd) (wr : List Nat) : Bool :=
  decide (kd.length = ops.length) && decide wr.Nodup &&
  (wr.zipIdx.all fun x => decide (kd[x.1]? = some (.w x.2))) &&
  kd.zipIdx.all fun x => match x.1 with
    | .q lo hi => decide (lo ≤ wr.length) && !wr.contains x.2 && (wr.zipIdx.all fun y => (!decide (y.2 < lo) || ancB ops x.2 y.1) && (!decide (hi ≤ y.2) || ancB ops y.1 x.2))
    | .w j => decide (wr[j]? = some x.2) && wr.zipIdx.all fun y => !decide (y.2 < j) || ancB ops x.2 y.1

theorem cnd_T (v : SV) : cnd true v = v := by unfold cnd; rfl
theorem cnd_F (v : SV) : cnd false v = .tup [] := by unfold cnd; rfl
abbrev Ob := (Nat → Option AO) × Nat
def allP (n : Nat) (R : Nat → Prop) (lo : Nat) : Prop :=
  match n with
  | 0 => R lo
  | n + 1 => R lo ∧ allP n R (lo + 1)
theorem allP_at {R : Nat → Prop} : ∀ (n lo p : Nat), allP n R lo → lo ≤ p → p ≤ lo + n → R p
  | 0, lo, p, h, h1, h2 => by
    have : p = lo := by omega
    subst this; exact h
  | n + 1, lo, p, h, h1, h2 => by
    by_cases hp : p = lo
    · subst hp; exact h.1
    · exact allP_at n (lo + 1) p h.2 (by omega) (by omega)

/-- Whether an operation is done. -/
def gdc (ops : Array Oper) (s : St) (g : Option (Nat × Bool)) (c : Bool) : Prop :=
  match g with
  | none => c = true
  | some (i, want) => GC (gsl ops s i) want c
/-- One operation: what it yields, whenever it is its turn. -/
def eOp (P : Program) (Θ : Tab) (ops : Array Oper) (ph : Nat → Ob) (o : Oper) (sl : Nat → SV) (v : SV) : Kd → Prop
  | .q lo hi => allP (hi - lo) (fun p => gOp P Θ ops o ⟨sl, (ph p).1, (ph p).2⟩ v) lo
  | .w j => ∃ c v2, gdc ops ⟨sl, (ph j).1, (ph j).2⟩ o.guard c ∧ (c = true → vOp P Θ o.op ⟨sl, (ph j).1, (ph j).2⟩ fun v' o' nk' => v' = v2 ∧ o' = (ph (j + 1)).1 ∧ nk' = (ph (j + 1)).2) ∧ (c = false → ph (j + 1) = ph j) ∧ v = cnd c v2
def eOps (P : Program) (Θ : Tab) (ops : Array Oper) (K : St → Prop) (ph : Nat → Ob) (m : Nat) : List Oper → List Kd → (Nat → SV) → Prop
  | o :: r, k :: ks, sl => ∃ v, eOp P Θ ops ph o sl v k ∧ eOps P Θ ops K ph m r ks (pt sl o.dst v)
  | [], [], sl => K ⟨sl, (ph m).1, (ph m).2⟩
  | _, _, _ => False

theorem eOps_spec {P : Program} {Θ : Tab} {ops : Array Oper} {K : St → Prop} {ph : Nat → Ob} {m : Nat} : ∀ (l : List Oper) (ks : List Kd) (sl : Nat → SV), eOps P Θ ops K ph m l ks sl →
    ∃ vs : List SV, vs.length = l.length ∧ (∀ (i : Nat) (o : Oper) (v : SV) (k : Kd), l[i]? = some o → vs[i]? = some v → ks[i]? = some k → eOp P Θ ops ph o (slAt sl (((l.map (·.dst)).zip vs).take i)) v k) ∧
      K ⟨slAt sl ((l.map (·.dst)).zip vs), (ph m).1, (ph m).2⟩
  | [], [], sl, h => ⟨[], rfl, by simp, h⟩
  | [], k :: ks, sl, h => h.elim
  | o :: r, [], sl, h => h.elim
  | o :: r, k :: ks, sl, h => by
    obtain ⟨v, h1, h2⟩ := h
    obtain ⟨vs, h3, h4, h5⟩ := eOps_spec r ks _ h2
    refine ⟨v :: vs, by simp [h3], fun i p x q hp hx hq => ?_, h5⟩
    cases i with
    | zero =>
      simp only [List.getElem?_cons_zero, Option.some.injEq] at hp hx hq
      subst hp; subst hx; subst hq
      exact h1
    | succ i => exact h4 i p x q (by simpa using hp) (by simpa using hx) (by simpa using hq)

section
variable {P : Program} {Θ : Tab} {n k0 : Nat} {Q : Exit → St → Prop}

theorem WP.drawnW (hΘ : TabOk P Θ) (hm : P.follows .mixedOrders = true) {sl : Nat → SV} {id : Nat} {ops : Array Oper} (kd : List Kd) (wr : List Nat) (ph : Nat → Ob) (hd : (ops.toList.all fun o => dstOk n o.dst) = true) (hflow : flowOk ops = true) (hph : phOk ops.toList kd wr = true)
    (h : eOps P Θ ops (Q .normal) ph wr.length ops.toList kd sl) : WP P n k0 (.region id ops true) ⟨sl, (ph 0).1, (ph 0).2⟩ Q := by
  intro E a w e1 e2 hrel
  refine wp_region_any hm ?_
  obtain ⟨vs, hvl, hop, hfin⟩ := eOps_spec _ _ _ h
  generalize hprs : (ops.toList.map (·.dst)).zip vs = prs at hop hfin
  simp only [phOk, Bool.and_eq_true, decide_eq_true_eq] at hph
  obtain ⟨⟨⟨hkl, hnd⟩, hwk⟩, hkd⟩ := hph
  have hwk' : ∀ j i, wr[j]? = some i → kd[i]? = some (Kd.w j) := fun j i hj => by
    have := List.all_eq_true.1 hwk (i, j) (by rw [List.mem_zipIdx_iff_getElem?]; exact hj)
    simpa using this
  have hget : ∀ (j : Nat) (o : Oper), ops[j]? = some o → ∃ v, vs[j]? = some v ∧ prs[j]? = some (o.dst, v) := fun j o hj => by
    have hlt : j < ops.size := (Array.getElem?_eq_some_iff.1 hj).1
    have hv : vs[j]? = some (vs[j]'(by rw [hvl]; simpa using hlt)) := List.getElem?_eq_getElem _
    refine ⟨_, hv, ?_⟩
    rw [← hprs, List.getElem?_zip_eq_some]
    refine ⟨?_, hv⟩
    rw [List.getElem?_map]
    have : ops.toList[j]? = some o := by simpa using hj
    rw [this]; rfl
  have hback : ∀ (j : Nat) (d : Option Nat) (v : SV), prs[j]? = some (d, v) → ∃ o, ops[j]? = some o ∧ o.dst = d ∧ vs[j]? = some v := fun j d v hj => by
    rw [← hprs, List.getElem?_zip_eq_some, List.getElem?_map] at hj
    obtain ⟨h1, h2⟩ := hj
    obtain ⟨o, ho, rfl⟩ := Option.map_eq_some_iff.1 h1
    exact ⟨o, by simpa using ho, rfl, h2⟩
  have huniq : Uniq prs := fun i j u v x hi hj => by
    obtain ⟨o, ho, hod, _⟩ := hback i _ v hi
    obtain ⟨p, hp, hpd, _⟩ := hback j _ x hj
    have := (flow_spec hflow ho).2 j p hp
    simp only [flowAt, hpd, Bool.and_eq_true, Bool.or_eq_true, beq_iff_eq] at this
    rcases this.1 with h1 | h1
    · exact h1
    · simp [hod] at h1
  have hons : ∀ {o : Oper} {e : Edge}, e ∈ o.after → Region.binds .any e = true → e.on ∈ onsOf o := fun {o e} he hb => by
    simp only [onsOf, List.mem_map, List.mem_filter]
    exact ⟨e, ⟨by simpa using he, hb⟩, rfl⟩
  have hons' : ∀ {o : Oper} {j : Nat}, j ∈ onsOf o → ∃ e ∈ o.after, Region.binds .any e = true ∧ e.on = j := fun {o j} hj => by
    simp only [onsOf, List.mem_map, List.mem_filter] at hj
    obtain ⟨e, ⟨h1, h2⟩, h3⟩ := hj
    exact ⟨e, by simpa using h1, h2, h3⟩
  have honlt : ∀ (i : Nat) (o : Oper), ops.toList[i]? = some o → ∀ k ∈ onsOf o, k < i := fun i o ho => (flow_spec hflow (by simpa using ho)).1
  have hsl : ∀ (listed : Array Bool) (i : Nat) (o : Oper), (∀ (j : Nat) (p : Oper), ops[j]? = some p → listed.getD j false = true → ∀ k ∈ onsOf p, listed.getD k false = true) →
      ops[i]? = some o → listed.getD i true = false → (∀ k ∈ onsOf o, listed.getD k false = true) → ∀ u ∈ o.looksAt ops, slAt sl (prs.take i) u = slL sl prs listed u := by
    intro listed i o hcl ho hi hon u hu
    by_cases hex : ∃ (j : Nat) (x : SV), prs[j]? = some (some u, x)
    · obtain ⟨j, x, hj⟩ := hex
      obtain ⟨p, hp, hpd, _⟩ := hback j _ x hj
      have hfl := (flow_spec hflow ho).2 j p hp
      have hlook : (o.looksAt ops).contains u = true := by simpa using hu
      simp only [flowAt, hpd, Bool.and_eq_true, Bool.or_eq_true, beq_iff_eq, hlook, Bool.not_true, Bool.false_eq_true, false_or, decide_eq_true_eq, List.contains_eq_mem] at hfl
      rcases hfl.2 with ⟨h1, h2⟩ | ⟨h1, h2⟩
      · rw [slL_hit huniq hj (hon j h2)]
        refine slAt_hit _ _ j (by rw [List.getElem?_take, if_pos h1]; exact hj) fun k y hk => ?_
        rw [List.getElem?_take] at hk
        split at hk
        · exact huniq k j u y x hk hj
        · cases hk
      · rw [slAt_miss, slL_miss]
        · intro k y hk hl
          have := huniq k j u y x hk hj
          subst this
          have := hcl k p hp hl i h2
          have hif : listed.getD i false = false := by
            rcases Nat.lt_or_ge i listed.size with h' | h'
            · simp [h'] at hi ⊢; exact hi
            · simp [Array.getElem?_eq_none h'] at hi
          rw [hif] at this
          cases this
        · intro y hy
          obtain ⟨k, hk⟩ := List.getElem?_of_mem hy
          rw [List.getElem?_take] at hk
          split at hk
          · have := huniq k j u y x hk hj
            omega
          · cases hk
    · rw [slAt_miss, slL_miss]
      · exact fun k y hk _ => hex ⟨k, y, hk⟩
      · intro y hy
        obtain ⟨k, hk⟩ := List.getElem?_of_mem (List.mem_of_mem_take hy)
        exact hex ⟨k, y, hk⟩
  have hall : ∀ listed : Array Bool, (∀ i, i < ops.size → listed.getD i true = true) → slL sl prs listed = slAt sl prs ∨ ops.size > listed.size := by
    intro listed hL
    rcases Nat.lt_or_ge listed.size ops.size with h' | h'
    · exact .inr h'
    · left
      funext u
      by_cases hex : ∃ (j : Nat) (x : SV), prs[j]? = some (some u, x)
      · obtain ⟨j, x, hj⟩ := hex
        obtain ⟨p, hp, _, _⟩ := hback j _ x hj
        have hlt : j < ops.size := (Array.getElem?_eq_some_iff.1 hp).1
        rw [slL_hit huniq hj, slAt_hit _ _ j hj fun k y hk => huniq k j u y x hk hj]
        have := hL j hlt
        have hlt' : j < listed.size := by omega
        simp [hlt'] at this ⊢
        exact this
      · rw [slAt_miss, slL_miss]
        · exact fun k y hk _ => hex ⟨k, y, hk⟩
        · intro y hy
          obtain ⟨k, hk⟩ := List.getElem?_of_mem hy
          exact hex ⟨k, y, hk⟩
  have hwlt : ∀ j i, wr[j]? = some i → i < ops.size := fun j i hj => by
    have := (List.getElem?_eq_some_iff.1 (hwk' j i hj)).1
    rw [hkl] at this
    simpa using this
  -- all orders
  have main : ∀ (fuel : Nat) (listed : Array Bool) (p : Nat) (a : Act) (w : World), listed.size = ops.size → unl listed ops.size ≤ fuel → p ≤ wr.length → (∀ j i, wr[j]? = some i → (listed.getD i false = true ↔ j < p)) →
      (∀ (j : Nat) (p : Oper), ops[j]? = some p → listed.getD j false = true → ∀ k ∈ onsOf p, listed.getD k false = true) →
      Rel E ⟨slL sl prs listed, (ph p).1, (ph p).2⟩ a w →
      wpAny P .any ops (fun e a' w' => ∃ s', Rel E s' a' w' ∧ Q e s') fuel listed a w := by
    intro fuel
    have hdone : ∀ (listed : Array Bool) (p : Nat) (a : Act) (w : World), listed.size = ops.size → p ≤ wr.length → (∀ j i, wr[j]? = some i → (listed.getD i false = true ↔ j < p)) →
        (∀ i, i < ops.size → listed.getD i true = true) → Rel E ⟨slL sl prs listed, (ph p).1, (ph p).2⟩ a w → ∃ s', Rel E s' a w ∧ Q .normal s' := by
      intro listed p a w hsz hp hwp hL hr
      have hpe : p = wr.length := by
        by_cases h : p < wr.length
        · have h1 := hwp p wr[p] (List.getElem?_eq_getElem h)
          have h2 := hL wr[p] (hwlt p _ (List.getElem?_eq_getElem h))
          have h3 : listed.getD wr[p] false = true := by
            have : wr[p] < listed.size := by rw [hsz]; exact hwlt p _ (List.getElem?_eq_getElem h)
            simp [this] at h2 ⊢
            exact h2
          have := h1.1 h3
          omega
        · omega
      subst hpe
      refine ⟨_, hr, ?_⟩
      rcases hall listed hL with h1 | h1
      · rw [h1]; exact hfin
      · omega
    induction fuel with
    | zero =>
      intro listed p a w hsz hun hp hwp hcl hr
      have hL := unl_zero ops.size (by omega) (listed := listed)
      obtain ⟨s', h1, h2⟩ := hdone listed p a w hsz hp hwp hL hr
      refine ⟨?_, s', h1, h2⟩
      rw [List.eq_nil_iff_forall_not_mem]
      intro i hi
      rw [mem_ready] at hi
      obtain ⟨h0, o, ho, _⟩ := hi
      have := hL i (Array.getElem?_eq_some_iff.1 ho).1
      rw [this] at h0
      cases h0
    | succ fuel ih =>
      intro listed p a w hsz hun hp hwp hcl hr
      refine ⟨fun hnil => ?_, fun i hi => ?_⟩
      · have hL : ∀ i, i < ops.size → listed.getD i true = true := by
          intro i
          induction i using Nat.strongRecOn with
          | _ i ihi =>
            intro hlt
            by_cases hl : listed.getD i true = true
            · exact hl
            · exfalso
              simp only [Bool.not_eq_true] at hl
              have hmem : i ∈ Region.ready .any ops listed := by
                rw [mem_ready]
                refine ⟨hl, ops[i], by simp [hlt], fun e he hb => ?_⟩
                have hlt2 := (flow_spec hflow (i := i) (o := ops[i]) (by simp [hlt])).1 e.on (hons he hb)
                have := ihi e.on hlt2 (by omega)
                have hlt3 : e.on < listed.size := by omega
                simp [hlt3] at this ⊢
                exact this
              rw [hnil] at hmem
              cases hmem
        exact hdone listed p a w hsz hp hwp hL hr
      · have hi' := hi
        rw [mem_ready] at hi'
        obtain ⟨h0, o, ho, hon⟩ := hi'
        have hilt : i < ops.size := (Array.getElem?_eq_some_iff.1 ho).1
        have h0f : listed.getD i false = false := by
          have : i < listed.size := by omega
          simp [this] at h0 ⊢; exact h0
        obtain ⟨v, hv, hpv⟩ := hget i o ho
        have hon' : ∀ k ∈ onsOf o, listed.getD k false = true := fun k hk => by
          obtain ⟨e, h1, h2, rfl⟩ := hons' hk
          exact hon e h1 h2
        have hcl' : ∀ (j : Nat) (p : Oper), ops.toList[j]? = some p → listed.getD j false = true → ∀ k ∈ onsOf p, listed.getD k false = true := fun j p hj => hcl j p (by simpa using hj)
        have hanc : ∀ k, ancB ops.toList i k = true → listed.getD k false = true := fun k hk => by
          refine ancs_closed honlt hcl' ops.toList.length i o (by simpa using hilt) (by simpa using ho) hon' k ?_
          simpa [ancB] using hk
        have hancw : ∀ (j x : Nat), ancB ops.toList j x = true → listed.getD j false = true → listed.getD x false = true := fun j x hx hj => by
          cases hq : ops[j]? with
          | none =>
            have : listed.getD j false = false := by
              have := Array.getElem?_eq_none_iff.1 hq
              have : ¬ j < listed.size := by omega
              simp [this]
            rw [this] at hj; cases hj
          | some q =>
            refine ancs_closed honlt hcl' ops.toList.length j q (by simpa using (Array.getElem?_eq_some_iff.1 hq).1) (by simpa using hq) (hcl j q hq hj) x ?_
            simpa [ancB] using hx
        obtain ⟨k, hk⟩ : ∃ k, kd[i]? = some k := ⟨kd[i]'(by rw [hkl]; simpa using hilt), List.getElem?_eq_getElem _⟩
        have hkd' := List.all_eq_true.1 hkd (k, i) (by rw [List.mem_zipIdx_iff_getElem?]; exact hk)
        have he := hop i o v k (by simpa using ho) hv hk
        have hdo : dstOk E.n o.dst = true := by
          rw [e1]
          exact List.all_eq_true.1 hd o (by
            have : ops.toList[i]? = some o := by simpa using ho
            exact List.mem_of_getElem? this)
        have hpt : slL sl prs (listed.setIfInBounds i true) = pt (slL sl prs listed) o.dst v := by
          have hli : (listed.setIfInBounds i true).getD i false = true := by
            have : i < listed.size := by rw [hsz]; exact hilt
            simp [this]
          have hlf : ∀ j, j ≠ i → (listed.setIfInBounds i true).getD j false = listed.getD j false := fun j hj => getD_set_ne false (Ne.symm hj)
          funext u
          by_cases hex : ∃ (j : Nat) (x : SV), prs[j]? = some (some u, x)
          · obtain ⟨j, x, hj⟩ := hex
            by_cases hji : j = i
            · subst hji
              rw [hj] at hpv
              simp only [Option.some.injEq, Prod.mk.injEq] at hpv
              obtain ⟨h1, h2⟩ := hpv
              rw [slL_hit huniq hj hli, ← h1, h2]
              exact (upd_same _ _ _).symm
            · have hne : o.dst ≠ some u := fun e => hji (huniq j i u x v hj (by rw [hpv, e]))
              have hp : pt (slL sl prs listed) o.dst v u = slL sl prs listed u := by
                cases hod : o.dst with
                | none => rfl
                | some d => exact upd_ne _ _ fun e => hne (by rw [hod, e])
              rw [hp]
              by_cases hl : listed.getD j false = true
              · rw [slL_hit huniq hj hl, slL_hit huniq hj (by rw [hlf j hji]; exact hl)]
              · rw [slL_miss, slL_miss]
                · intro k y hk hlk
                  have := huniq k j u y x hk hj
                  subst this
                  exact hl hlk
                · intro k y hk hlk
                  have := huniq k j u y x hk hj
                  subst this
                  rw [hlf k hji] at hlk
                  exact hl hlk
          · have hne : o.dst ≠ some u := fun e => hex ⟨i, v, by rw [hpv, e]⟩
            have hp : pt (slL sl prs listed) o.dst v u = slL sl prs listed u := by
              cases hod : o.dst with
              | none => rfl
              | some d => exact upd_ne _ _ fun e => hne (by rw [hod, e])
            rw [hp, slL_miss, slL_miss]
            · exact fun k y hk _ => hex ⟨k, y, hk⟩
            · exact fun k y hk _ => hex ⟨k, y, hk⟩
        have hcl2 : ∀ (j : Nat) (p : Oper), ops[j]? = some p → (listed.setIfInBounds i true).getD j false = true → ∀ k ∈ onsOf p, (listed.setIfInBounds i true).getD k false = true := by
          intro j p hj hl k hk
          by_cases hji : j = i
          · subst hji
            rw [ho] at hj
            simp only [Option.some.injEq] at hj
            subst hj
            exact getD_set_true (hon' k hk)
          · rw [getD_set_ne false (Ne.symm hji)] at hl
            exact getD_set_true (hcl j p hj hl k hk)
        have hun2 : unl (listed.setIfInBounds i true) ops.size ≤ fuel := by
          have := unl_set h0 ops.size
          rw [if_pos hilt] at this
          omega
        have hseti : (listed.setIfInBounds i true).getD i false = true := by
          have : i < listed.size := by rw [hsz]; exact hilt
          simp [this]
        show wpOp P ops _ i _ a w
        unfold wpOp
        rw [ho]
        simp only
        cases k with
        | q lo hi =>
          simp only [Bool.and_eq_true, decide_eq_true_eq, Bool.not_eq_true'] at hkd'
          obtain ⟨⟨hlo, hnw⟩, hky⟩ := hkd'
          have hni : ∀ j, wr[j]? ≠ some i := fun j hj => by
            have : wr.contains i = true := by simpa using List.mem_of_getElem? hj
            rw [hnw] at this; cases this
          have hky' : ∀ j x, wr[j]? = some x → (j < lo → ancB ops.toList i x = true) ∧ (hi ≤ j → ancB ops.toList x i = true) := fun j x hj => by
            have := List.all_eq_true.1 hky (x, j) (by rw [List.mem_zipIdx_iff_getElem?]; exact hj)
            simp only [Bool.and_eq_true, Bool.or_eq_true, Bool.not_eq_true', decide_eq_false_iff_not] at this
            exact ⟨fun h => this.1.resolve_left fun h' => h' h, fun h => this.2.resolve_left fun h' => h' h⟩
          have hplo : lo ≤ p := by
            rcases Nat.lt_or_ge p lo with h | h
            · have hlt : p < wr.length := by omega
              have hw := List.getElem?_eq_getElem hlt
              have h1 := hanc _ ((hky' p _ hw).1 h)
              have := (hwp p _ hw).1 h1
              omega
            · exact h
          have hphi : p ≤ hi := by
            rcases Nat.lt_or_ge hi p with h | h
            · have hlt : hi < wr.length := by omega
              have hw := List.getElem?_eq_getElem hlt
              have h1 := (hwp hi _ hw).2 h
              have h2 := hancw _ _ ((hky' hi _ hw).2 (Nat.le_refl _)) h1
              rw [h0f] at h2; cases h2
            · exact h
          have hg0 := allP_at (hi - lo) lo p he hplo (by omega)
          have hg : gOp P Θ ops o ⟨slL sl prs listed, (ph p).1, (ph p).2⟩ v := gOp_congr (s := ⟨slAt sl (prs.take i), (ph p).1, (ph p).2⟩) (fun u hu => hsl listed i o hcl ho h0 hon' u hu) rfl rfl hg0
          have hstep := g_step (Q := fun e a' w' => ∃ s', Rel E s' a' w' ∧ Q e s') (next := wpAny P .any ops (fun e a' w' => ∃ s', Rel E s' a' w' ∧ Q e s') fuel (listed.setIfInBounds i true)) hΘ hr hdo hg (fun a' w' hr' => by
            refine ih _ p a' w' (by simpa using hsz) hun2 hp (fun j x hj => ?_) hcl2 (by rw [hpt]; exact hr')
            have hne : x ≠ i := fun e => hni j (by rw [hj, e])
            rw [getD_set_ne false (Ne.symm hne)]
            exact hwp j x hj)
          split
          · rename_i hw
            rw [if_pos hw] at hstep
            exact .inl hstep
          · rename_i hw
            rw [if_neg hw] at hstep
            exact hstep
        | w j =>
          simp only [Bool.and_eq_true, decide_eq_true_eq] at hkd'
          obtain ⟨hwj, hky⟩ := hkd'
          have hky' : ∀ j' x, wr[j']? = some x → j' < j → ancB ops.toList i x = true := fun j' x hj hlt => by
            have := List.all_eq_true.1 hky (x, j') (by rw [List.mem_zipIdx_iff_getElem?]; exact hj)
            simp only [Bool.or_eq_true, Bool.not_eq_true', decide_eq_false_iff_not] at this
            exact this.resolve_left fun h' => h' hlt
          have hjlt : j < wr.length := (List.getElem?_eq_some_iff.1 hwj).1
          have hpj : p = j := by
            have h1 : ¬ j < p := fun h => by
              have := (hwp j i hwj).2 h
              rw [h0f] at this; cases this
            rcases Nat.lt_or_ge p j with h | h
            · have hlt : p < wr.length := by omega
              have hw := List.getElem?_eq_getElem hlt
              have := (hwp p _ hw).1 (hanc _ (hky' p _ hw h))
              omega
            · omega
          subst hpj
          obtain ⟨c, v2, hgc, hvo, hsame, rfl⟩ := he
          have hgc2 : gdc ops ⟨slL sl prs listed, (ph p).1, (ph p).2⟩ o.guard c := by
            unfold gdc at hgc ⊢
            split at hgc
            · exact hgc
            · rename_i j want hg
              have hgs : gsl ops ⟨slL sl prs listed, (ph p).1, (ph p).2⟩ j = gsl ops ⟨slAt sl (prs.take i), (ph p).1, (ph p).2⟩ j := by
                unfold gsl
                split
                · rename_i d hd
                  refine (hsl listed i o hcl ho h0 hon' d ?_).symm
                  simp only [Oper.looksAt, List.mem_append, List.mem_filterMap]
                  right
                  rw [hg]
                  simp [hd]
                · rfl
              rw [hgs]; exact hgc
          have hlast : ∀ (a' : Act) (w' : World), Rel E { sl := pt (slL sl prs listed) o.dst (cnd c v2), o := (ph (p + 1)).1, nk := (ph (p + 1)).2 } a' w' → wpAny P .any ops (fun e a' w' => ∃ s', Rel E s' a' w' ∧ Q e s') fuel (listed.setIfInBounds i true) a' w' := by
            intro a' w' hr'
            refine ih _ (p + 1) a' w' (by simpa using hsz) hun2 (by omega) (fun j x hj => ?_) hcl2 (by rw [hpt]; exact hr')
            by_cases hx : x = i
            · subst hx
              have hjp : j = p := by
                obtain ⟨h1a, h1b⟩ := List.getElem?_eq_some_iff.1 hj
                obtain ⟨h2a, h2b⟩ := List.getElem?_eq_some_iff.1 hwj
                rcases Nat.lt_trichotomy j p with hlt | heq | hgt
                · exact absurd (h1b.trans h2b.symm) ((List.pairwise_iff_getElem.1 hnd) j p h1a h2a hlt)
                · exact heq
                · exact absurd (h2b.trans h1b.symm) ((List.pairwise_iff_getElem.1 hnd) p j h2a h1a hgt)
              rw [hseti, hjp]
              simp
            · rw [getD_set_ne false (Ne.symm hx), hwp j x hj]
              have : j ≠ p := fun e => hx (by
                subst e
                rw [hwj] at hj
                exact (Option.some.inj hj).symm)
              omega
          have hwant : Region.wanted o (yielded ops a.tmps) = c := by
            unfold gdc at hgc2
            unfold Region.wanted
            split at hgc2
            · rename_i hg; rw [hg]; exact hgc2.symm
            · rename_i j want hg
              rw [hg]
              exact guard_yield hr hgc2
          cases c with
          | true =>
            have hvo2 := vOp_congr (s := ⟨slAt sl (prs.take i), (ph p).1, (ph p).2⟩) (s' := ⟨slL sl prs listed, (ph p).1, (ph p).2⟩) (fun x hx => by
              cases x with
              | tmp t =>
                refine hsl listed i o hcl ho h0 hon' t ?_
                simp only [Oper.looksAt, List.mem_append, List.mem_filterMap]
                exact .inl ⟨.tmp t, by simpa using hx, rfl⟩
              | _ => rfl) rfl rfl (hvo rfl)
            rw [if_pos hwant]
            refine .inl (op_step hΘ hr hdo hvo2 ?_)
            rintro v' o' nk' a' w' ⟨rfl, rfl, rfl⟩ hr'
            exact hlast a' w' (by rw [cnd_T]; exact hr')
          | false =>
            rw [if_neg (by rw [hwant]; simp)]
            obtain ⟨S, γ, hr⟩ := hr
            refine hlast _ _ ?_
            rw [hsame rfl, cnd_F]
            exact ⟨S, γ, hr.put hdo hr.sto (Tr.refl _ _ _ _ _) (.tup [] [] rfl (by simp)) trivial⟩
  refine main ops.size _ 0 a _ (by simp) ?_ (Nat.zero_le _) ?_ ?_ ?_
  · have : ∀ m, unl (Array.replicate ops.size false) m ≤ m := by
      intro m
      induction m with
      | zero => simp [unl]
      | succ m ih => simp only [unl]; split <;> omega
    exact this _
  · intro j i _
    simp only [Nat.not_lt_zero, iff_false]
    intro hl
    simp only [Array.getD_eq_getD_getElem?, Array.getElem?_replicate] at hl
    split at hl <;> simp at hl
  · intro j p hj hl
    simp only [Array.getD_eq_getD_getElem?, Array.getElem?_replicate] at hl
    split at hl <;> simp at hl
  · obtain ⟨S, γ, hr⟩ := hrel
    obtain ⟨m1, m2⟩ := hr.sto.more (w' := { w with drawn := w.drawn + 1 }) (fun _ => False) (fun _ h => h.elim) rfl rfl rfl (Nat.le_refl _) (fun _ _ => rfl)
    have hsl : slL sl prs (Array.replicate ops.size false) = sl := by
      funext u
      refine slL_miss fun j v _ hl => ?_
      simp only [Array.getD_eq_getD_getElem?, Array.getElem?_replicate] at hl
      split at hl <;> simp at hl
    rw [hsl]
    exact ⟨_, γ, m1, hr.tr.trans m2, fun u => (hr.sl u).tr hr.sto m2 (hr.slt u), hr.slt, hr.df, hr.nn⟩
end
end Go.Proofs.YtpkcbdhjnnnkbaaGreat.Abs

/- Steps of drawn regions that write; more contracts of functions. -/
set_option linter.unusedVariables false
set_option linter.unusedSimpArgs false
namespace Go.Proofs.YtpkcbdhjnnnkbaaGreat.Abs
open Go

def pho (l : List Ob) : Nat → Ob := fun p => (l[p]?).getD (fun _ => none, 0)
section
variable {P : Program} {Θ : Tab} {n k0 : Nat} {Q : Exit → St → Prop}
theorem WP.dr3 {sl : Nat → SV} {o : Nat → Option AO} {nk : Nat} {id : Nat} {l : List Oper} (kd : List Kd) (wr : List Nat) (n1 n2 n3 : Nat) (hΘ : TabOk P Θ) (hm : P.follows .mixedOrders = true) (hd : (l.all fun o => dstOk n o.dst) = true) (hf : flowOk l.toArray = true) (hp : phOk l kd wr = true)
    (h : ∃ o1 o2 o3 : Nat → Option AO, eOps P Θ l.toArray (Q .normal) (pho [(o, nk), (o1, n1), (o2, n2), (o3, n3)]) wr.length l kd sl) : WP P n k0 (.region id l.toArray true) ⟨sl, o, nk⟩ Q := by
  obtain ⟨o1, o2, o3, h⟩ := h
  exact WP.drawnW (ops := l.toArray) hΘ hm kd wr _ (by simpa using hd) hf (by simpa using hp) (by simpa using h)
end
/-- Within a scope whose labels are not jumped to. -/
def Qsc (Q : Exit → St → Prop) : Exit → St → Prop
  | .goto _, _ => False
  | e, s => Q e s
theorem WP.scope {P : Program} {n k0 : Nat} {s : St} {Q : Exit → St → Prop} {c : Code} (h : WP P n k0 c s (Qsc Q)) : WP P n k0 (.scope c) s Q := fun E a w h1 h2 h3 => by
  refine wp_scope_straight (Go.wp_mono (h E a w h1 h2 h3) ?_)
  rintro e a' w' ⟨s', hr, q⟩
  cases e <;> first | exact q.elim | exact ⟨s', hr, q⟩
section
variable {P : Program} {Θ : Tab} {ops : Array Oper} {K : St → Prop} {r : List Oper} {sl : Nat → SV} {d ty j lo m nk nk' : Nat} {o o' : Nat → Option AO} {op : Op} {pos : String} {af : Array Edge} {want c : Bool} {v : SV} {L : List Ob} {ks : List Kd}
theorem pho_at {p : Nat} (h : L[p]? = some (o, nk)) : pho L p = (o, nk) := by simp [pho, h]
theorem e_step (h0 : L[lo]? = some (o, nk)) (h : vOp P Θ op ⟨sl, o, nk⟩ fun v' o' nk' => v' = v ∧ o' = o ∧ nk' = nk) (k : eOps P Θ ops K (pho L) m r ks (upd sl d v)) :
    eOps P Θ ops K (pho L) m ({ dst := some d, op := op, type := ty, pos := pos, after := af, guard := none } :: r) (.q lo lo :: ks) sl := by
  refine ⟨v, ?_, k⟩
  show allP (lo - lo) _ lo
  rw [Nat.sub_self]
  simp only [allP, pho_at h0]; exact h
theorem e_step2 (h0 : L[lo]? = some (o, nk)) (h1 : L[lo + 1]? = some (o', nk')) (h : vOp P Θ op ⟨sl, o, nk⟩ fun v' o'' nk'' => v' = v ∧ o'' = o ∧ nk'' = nk) (h2 : vOp P Θ op ⟨sl, o', nk'⟩ fun v' o'' nk'' => v' = v ∧ o'' = o' ∧ nk'' = nk') (k : eOps P Θ ops K (pho L) m r ks (upd sl d v)) :
    eOps P Θ ops K (pho L) m ({ dst := some d, op := op, type := ty, pos := pos, after := af, guard := none } :: r) (.q lo (lo + 1) :: ks) sl := by
  refine ⟨v, ?_, k⟩
  show allP (lo + 1 - lo) _ lo
  rw [Nat.add_sub_cancel_left]
  simp only [allP, pho_at h0, pho_at h1]; exact ⟨h, h2⟩
theorem e_w (h0 : L[j]? = some (o, nk)) (h1 : L[j + 1]? = some (o', nk')) (h : vOp P Θ op ⟨sl, o, nk⟩ fun v' o'' nk'' => v' = v ∧ o'' = o' ∧ nk'' = nk') (k : eOps P Θ ops K (pho L) m r ks (upd sl d v)) :
    eOps P Θ ops K (pho L) m ({ dst := some d, op := op, type := ty, pos := pos, after := af, guard := none } :: r) (.w j :: ks) sl := by
  refine ⟨v, ⟨true, v, rfl, fun _ => ?_, fun e => (by cases e), (cnd_T v).symm⟩, k⟩
  rw [pho_at h0, pho_at h1]; exact h
theorem e_w0 (h0 : L[j]? = some (o, nk)) (h1 : L[j + 1]? = some (o', nk')) (h : vOp P Θ op ⟨sl, o, nk⟩ fun v' o'' nk'' => v' = v ∧ o'' = o' ∧ nk'' = nk') (k : eOps P Θ ops K (pho L) m r ks sl) :
    eOps P Θ ops K (pho L) m ({ dst := none, op := op, type := ty, pos := pos, after := af, guard := none } :: r) (.w j :: ks) sl := by
  refine ⟨v, ⟨true, v, rfl, fun _ => ?_, fun e => (by cases e), (cnd_T v).symm⟩, k⟩
  rw [pho_at h0, pho_at h1]; exact h
theorem e_nil (h0 : L[m]? = some (o, nk)) (h : ∀ o1, (∀ t, o1 t = o t) → K ⟨sl, o1, nk⟩) : eOps P Θ ops K (pho L) m [] [] sl := by
  show K ⟨sl, (pho L m).1, (pho L m).2⟩
  rw [pho_at h0]; exact h _ fun _ => rfl
end

/-! ### writers, with what they make spelled out -/
section
variable {P : Program} {Θ : Tab} {K : SV → (Nat → Option AO) → Nat → Prop} {sl : Nat → SV} {o : Nat → Option AO} {nk : Nat} {x y ix : Operand} {t e f : Nat} {a b : D}
/-- Onto nothing or a row. -/
theorem w_apD {i j : TI} {l xs ys : List D} {q : Option Nat} {z : Nat} (hy : ev sl y = .d (.sl z ys)) (hi : Θ t = some i) (hk : i.k = .slice e) (hj : Θ e = some j) (hz : j.z = some l) (hl : l.length = j.sz) (hpos : 0 < j.sz) (hzz : z = j.sz) (hd : dstOf o e j.sz (ev sl x) = some (q, xs))
    (h63 : xs.length + ys.length ≤ 9223372036854775807) (hby : (xs.length + ys.length) * j.bys ≤ 140737488355328) (h : K (.row nk) (upd (killo o q) nk (some (.row e j.sz (xs ++ ys)))) (nk + 1)) : vOp P Θ (.call { callee := .builtin .append, args := #[x, y], argTypes := #[t, t] }) ⟨sl, o, nk⟩ K :=
  o_ap (q := q) hi hk hj hz hl hpos hd (by rw [hy]; exact sl_nstr) (by rw [hy]; simp [srcOf, hzz]) h63 hby h
theorem g_apD2 {i j : TI} {l xs ys : List D} {q : Option Nat} {z : Nat} (hy : ev sl y = .d (.sl z ys)) (hi : Θ t = some i) (hk : i.k = .slice e) (hj : Θ e = some j) (hz : j.z = some l) (hl : l.length = j.sz) (hpos : 0 < j.sz) (hzz : z = j.sz) (hd : dstOf o e j.sz (ev sl x) = some (q, xs))
    (h63 : xs.length + ys.length ≤ 9223372036854775807) (hby : (xs.length + ys.length) * j.bys ≤ 140737488355328) (h : ∀ o1, o1 nk = some (.row e j.sz (xs ++ ys)) → (∀ t, t ≠ nk → some t ≠ q → o1 t = o t) → K (.row nk) o1 (nk + 1)) : vOp P Θ (.call { callee := .builtin .append, args := #[x, y], argTypes := #[t, t] }) ⟨sl, o, nk⟩ K :=
  g_apD hd hy hi hk hj hz hl hpos hzz h63 hby h
theorem w_stV {i : TI} {k g q e z : Nat} {xs : List D} {cs : List SV} (hx : ev sl x = .loc k g) (hy : ev sl y = .row q) (hq : o q = some (.row e z xs)) (hi : Θ t = some i) (hs : i.sz = 1) (ho : o k = some (.box cs)) (hle : g < cs.length) (h : K .any (upd o k (some (.box (cs.take g ++ [.row q] ++ cs.drop (g + 1))))) nk) : vOp P Θ (.store t x y) ⟨sl, o, nk⟩ K := by
  refine Or.inl ?_
  refine ⟨i, [.row q], hi, ?_, hs.symm, ?_⟩
  · show (ev sl y).cells o = _
    rw [hy]; simp [SV.cells, hq]
  · show (match ev sl x with | .loc k f => _ | _ => False)
    rw [hx]
    exact ⟨cs, ho, by simp; omega, h⟩
end

theorem killo_ne {o : Nat → Option AO} {q : Option Nat} {t : Nat} (h : q ≠ some t) : killo o q t = o t := by
  cases q with
  | none => rfl
  | some u => exact upd_ne _ _ fun e => h (by rw [e])
theorem dst_keep {o o' : Nat → Option AO} {e z : Nat} {c : SV} {q : Option Nat} {xs : List D} (hd : dstOf o e z c = some (q, xs)) (h : ∀ t, q = some t → o' t = o t) : dstOf o' e z c = some (q, xs) := by
  unfold dstOf at hd ⊢
  split at hd
  · exact hd
  · rename_i t
    have hq : q = some t := by
      split at hd
      · split at hd
        · simp only [Option.some.injEq, Prod.mk.injEq] at hd
          exact hd.1.symm
        · cases hd
      · cases hd
    rw [h t hq]; exact hd
  · cases hd

theorem resis_agg {Θ : Tab} {sl : Nat → SV} {o : Nat → Option AO} {nk a t : Nat} {i : TI} {k g : Nat} {cs : List SV} {ds : List D} (hx : sl a = .loc k g) (hi : Θ t = some i) (ha : i.k.agg = true) (ho : o k = some (.box cs)) (hc : allD ((cs.drop g).take i.sz) = some ds) (hl : ds.length = i.sz) (hlf : ds.all D.leaf = true) : ResIs Θ ⟨sl, o, nk⟩ (.cell a t) (.d (.agg ds)) := by
  refine ⟨⟨k, g, hx⟩, i, hi, ?_⟩
  show (match sl a with | .loc k f => _ | .el x => _ | _ => False)
  rw [hx]
  refine ⟨cs, ho, ?_⟩
  rw [if_pos ha]
  exact .inl ⟨ds, hc, hl, hlf, rfl⟩
/-- It answers a row of its own, or nothing where there is nothing. -/
def DSpec (P : Program) (f : FuncId) (args : List SV) (e z : Nat) (xs : List D) : Prop := ∀ (o : Nat → Option AO) (nk : Nat), Spec P f args o nk fun r o' nk' => (r = .d .nil ∧ xs = [] ∧ nk ≤ nk' ∧ ∀ t, t < nk → o' t = o t) ∨ ∃ q, r = .row q ∧ nk ≤ q ∧ q < nk' ∧ o' q = some (.row e z xs) ∧ ∀ t, t < nk → o' t = o t
theorem DSpec.of {P : Program} {f : FuncId} {n : Nat} {ts : List Nat} {c : Code} {args : List SV} {e z : Nat} {xs : List D} (hf : FnOk P f n ts c) (hn : args.length ≤ n)
    (h : ∀ o nk, WP P n nk c ⟨slots args, o, nk⟩ (retQ ts fun r o' nk' => (r = .d .nil ∧ xs = [] ∧ nk ≤ nk' ∧ ∀ t, t < nk → o' t = o t) ∨ ∃ q, r = .row q ∧ nk ≤ q ∧ q < nk' ∧ o' q = some (.row e z xs) ∧ ∀ t, t < nk → o' t = o t)) : DSpec P f args e z xs := fun o nk => Spec.of_body hf hn (h o nk)
theorem DSpec.le {P : Program} {f : FuncId} {args args' : List SV} {e z : Nat} {xs : List D} (h : DSpec P f args' e z xs) (hl : SV.les args args') : DSpec P f args e z xs := fun o nk => (h o nk).le hl
theorem DSpec.bd {P : Program} {f : FuncId} {args : List SV} {e z : Nat} {xs : List D} (h : SV.bds args → DSpec P f args e z xs) : DSpec P f args e z xs := fun o nk => Spec.bd fun hb => h hb o nk
theorem frz_post {P : Program} {w : World} {S : Nat → Prop} {γ : Nat → Value} {o : Nat → Option AO} {nk : Nat} {z : Nat} {xs : List D} {v : Value} {w' : World} (h1 : Sto w S γ o nk) {r : SV} {o' : Nat → Option AO} {nk' : Nat} {S' : Nat → Prop} {γ' : Nat → Value} {e q : Nat}
    (hr : r = .row q) (ho : o' q = some (.row e z xs)) (hnq : nk ≤ q) (hfr : ∀ t, t < nk → o' t = o t) (hs : Sto w' S' γ' o' nk') (ht : Tr w S γ o nk w' S' γ' o' nk') (hsr : SR w' S' γ' o' r v) :
    Post P w S γ o nk (fun r o'' nk'' => r = .d (.sl z xs) ∧ o'' = o ∧ nk'' = nk) v w' := by
  subst hr
  obtain ⟨k1, k2, k3⟩ := hs.freeze ho
  have hv : Rd w' (fun k => S' k ∨ blk (γ' q) = some k) (.sl z xs) v := by
    cases hsr with
    | row _ _ hv => rw [hv e z xs ho]; exact k3
  have hk : Wko nk id (upd o' q none) o nk := by
    refine ⟨Nat.le_refl _, fun t x hx => ?_, fun t t' x x' _ _ e => e, fun _ _ _ _ => rfl⟩
    have hlt := h1.o_lt t x hx
    refine ⟨hlt, ?_, ?_⟩
    · rw [AO.ren_id]; show upd o' q none t = some x; rw [upd_ne _ _ (by omega), hfr t hlt, hx]
    · cases x with
      | box cs => exact (h1.box t cs hx).2
      | row => trivial
      | raw => trivial
  exact ⟨.d (.sl z xs), o, nk, _, γ' ∘ id, ⟨rfl, rfl, rfl⟩, hk.sto k1, hk.tr (ht.trans k2), .d _ _ hv, trivial⟩
theorem nil_post {P : Program} {w : World} {S : Nat → Prop} {γ : Nat → Value} {o : Nat → Option AO} {nk : Nat} {z : Nat} {v : Value} {w' : World} (h1 : Sto w S γ o nk) {r : SV} {o' : Nat → Option AO} {nk' : Nat} {S' : Nat → Prop} {γ' : Nat → Value}
    (hr : r = .d .nil) (hfr : ∀ t, t < nk → o' t = o t) (hs : Sto w' S' γ' o' nk') (ht : Tr w S γ o nk w' S' γ' o' nk') (hsr : SR w' S' γ' o' r v) :
    Post P w S γ o nk (fun r o'' nk'' => r = .d (.sl z []) ∧ o'' = o ∧ nk'' = nk) v w' := by
  subst hr
  have hk : Wko nk id o' o nk := by
    refine ⟨Nat.le_refl _, fun t x hx => ?_, fun t t' x x' _ _ e => e, fun _ _ _ _ => rfl⟩
    have hlt := h1.o_lt t x hx
    refine ⟨hlt, ?_, ?_⟩
    · rw [AO.ren_id]; show o' t = some x; rw [hfr t hlt, hx]
    · cases x with
      | box cs => exact (h1.box t cs hx).2
      | row => trivial
      | raw => trivial
  refine ⟨.d (.sl z []), o, nk, _, γ' ∘ id, ⟨rfl, rfl, rfl⟩, hk.sto hs, hk.tr ht, ?_, trivial⟩
  cases hsr with
  | d _ _ hrd => exact .d _ _ (hrd.le (by simp [D.le]))
/-- A row that the caller does not write: frozen. -/
theorem RSpec.frz {P : Program} {f : FuncId} {args : List SV} {e z : Nat} {xs : List D} (h : RSpec P f args e z xs) : PSpec P f args (.d (.sl z xs)) := fun o nk w S γ vs h1 h2 h3 h4 => by
  refine (h o nk w S γ vs h1 h2 h3 h4).mono ?_
  rintro v w' ⟨r, o', nk', S', γ', ⟨q, hr, k1, k2, k3, k4⟩, hs, ht, hsr, hl⟩
  exact frz_post h1 hr k3 k1 k4 hs ht hsr
theorem DSpec.frz {P : Program} {f : FuncId} {args : List SV} {e z : Nat} {xs : List D} (h : DSpec P f args e z xs) : PSpec P f args (.d (.sl z xs)) := fun o nk w S γ vs h1 h2 h3 h4 => by
  refine (h o nk w S γ vs h1 h2 h3 h4).mono ?_
  rintro v w' ⟨r, o', nk', S', γ', ⟨hr, rfl, k1, k4⟩ | ⟨q, hr, k1, k2, k3, k4⟩, hs, ht, hsr, hl⟩
  · exact nil_post h1 hr k4 hs ht hsr
  · exact frz_post h1 hr k3 k1 k4 hs ht hsr
theorem o_bs1 {Θ : Tab} {P : Program} {K : SV → (Nat → Option AO) → Nat → Prop} {sl : Nat → SV} {o : Nat → Option AO} {nk : Nat} {x : Operand} {t e : Nat} {a : D} {i j : TI} {l : List D} (hx : ev sl x = .d a) (hw : a.width = j.sz) (hi : Θ t = some i) (hk : i.k = .slice e) (hj : Θ e = some j) (hz : j.z = some l) (hl : l.length = j.sz) (hpos : 0 < j.sz) (hs : 1 * j.sz ≤ 16777216) (h : K (.d (.sl j.sz [a])) o nk) : vOp P Θ (.buildSlice t 1 #[(0, x)]) ⟨sl, o, nk⟩ K :=
  o_bs (xs := [a]) (by simp [partsL, hx, hw]) hi hk hj hz hl hpos rfl hs (by decide) h
/-- A new object under the next name; the others as they were. -/
theorem wk_new {P : Program} {f : FuncId} {args : List SV} {o : Nat → Option AO} {nk : Nat} {x : AO} (hx : ∀ m, x.lt m) (hi : x.ren (fun _ => 0) = x) {o' : Nat → Option AO} {nk' q : Nat} (h1 : nk ≤ q) (h2 : q < nk') (h3 : o' q = some x) (h4 : ∀ t, t < nk → o' t = o t)
    (hlt : ∀ t y, o t = some y → t < nk ∧ y.lt nk) (hr : ∀ τ, x.ren τ = x) (hid : ∀ t y, o t = some y → ∀ τ : Nat → Nat, (∀ u, u < nk → τ u = u) → y.ren τ = y) : Wko nk (fun t => if t = nk then q else t) o' (upd o nk (some x)) (nk + 1) := by
  refine ⟨by omega, fun t y hy => ?_, fun t t' y y' hy hy' e => ?_, fun t y ht _ => if_neg (by omega)⟩
  · unfold upd at hy
    split at hy
    · rename_i he
      subst he
      injection hy with hy
      subst hy
      exact ⟨by omega, by simp only [if_true, h3, hr], hx _⟩
    · rename_i hne
      obtain ⟨h5, h6⟩ := hlt t y hy
      refine ⟨by omega, ?_, ?_⟩
      · rw [if_neg hne, h4 t h5, hy, hid t y hy _ fun u hu => if_neg (by omega)]
      · cases y with
        | box cs => exact SV.lts_mono (by omega) h6
        | row => trivial
        | raw => trivial
  · have key : ∀ t y, upd o nk (some x) t = some y → t = nk ∨ t < nk := fun t y hy => by
      unfold upd at hy
      split at hy
      · rename_i he; exact .inl he
      · exact .inr (hlt t y hy).1
    have k1 := key t y hy
    have k2 := key t' y' hy'
    by_cases ht : t = nk
    · by_cases ht' : t' = nk
      · rw [ht, ht']
      · rw [if_pos ht, if_neg ht'] at e
        omega
    · by_cases ht' : t' = nk
      · rw [if_neg ht, if_pos ht'] at e
        omega
      · rw [if_neg ht, if_neg ht'] at e
        exact e
mutual
theorem SV.ren_lt {n : Nat} {τ : Nat → Nat} (h : ∀ u, u < n → τ u = u) : ∀ {c : SV}, c.lt n → c.ren τ = c
  | .loc t f, hl => by simp only [SV.ren, h t hl]
  | .row t, hl => by simp only [SV.ren, h t hl]
  | .rel t j f, hl => by simp only [SV.ren, h t hl]
  | .raw t, hl => by simp only [SV.ren, h t hl]
  | .view t lo n c, hl => by simp only [SV.ren, h t hl]
  | .dx z xs, _ => rfl
  | .clo g fs cs, hl => by simp only [SV.ren, SV.rens_lt h hl.1, SV.rens_lt h hl.2]
  | .tup cs, hl => by simp only [SV.ren]; rw [SV.rens_lt h hl]
  | .ag cs, hl => by simp only [SV.ren]; rw [SV.rens_lt h hl]
  | .d x, _ => rfl
  | .el x, _ => rfl
  | .any, _ => rfl
theorem SV.rens_lt {n : Nat} {τ : Nat → Nat} (h : ∀ u, u < n → τ u = u) : ∀ {cs : List SV}, SV.lts n cs → SV.rens τ cs = cs
  | [], _ => rfl
  | c :: cs, hl => by simp only [SV.rens]; rw [SV.ren_lt h hl.1, SV.rens_lt h hl.2]
end
/-- The new row under the next name. -/
theorem Spec.newRow {P : Program} {f : FuncId} {args : List SV} {o : Nat → Option AO} {nk : Nat} {e z : Nat} {xs : List D}
    (h : Spec P f args o nk fun r o' nk' => ∃ q, r = .row q ∧ nk ≤ q ∧ q < nk' ∧ o' q = some (.row e z xs) ∧ ∀ t, t < nk → o' t = o t) :
    Spec P f args o nk fun r o' nk' => r = .row nk ∧ o' = upd o nk (some (.row e z xs)) ∧ nk' = nk + 1 := by
  intro w S γ vs h1 h2 h3 h4
  refine (h w S γ vs h1 h2 h3 h4).mono ?_
  rintro v w' ⟨r, o', nk', S', γ', ⟨q, rfl, k1, k2, k3, k4⟩, hs, ht, hr, hl⟩
  have hlt : ∀ t y, o t = some y → t < nk ∧ y.lt nk := fun t y hy => by
    refine ⟨h1.o_lt t y hy, ?_⟩
    cases y with
    | box cs => exact (h1.box t cs hy).2
    | row => trivial
    | raw => trivial
  have hid : ∀ t y, o t = some y → ∀ τ : Nat → Nat, (∀ u, u < nk → τ u = u) → y.ren τ = y := fun t y hy τ hτ => by
    cases y with
    | box cs => simp only [AO.ren]; rw [SV.rens_lt hτ (h1.box t cs hy).2]
    | row => rfl
    | raw => rfl
  have hk : Wko nk (fun t => if t = nk then q else t) o' (upd o nk (some (.row e z xs))) (nk + 1) := wk_new (P := P) (f := f) (args := args) (x := .row e z xs) (fun _ => trivial) rfl k1 k2 k3 k4 hlt (fun _ => rfl) hid
  refine ⟨.row nk, _, _, S', γ' ∘ _, ⟨rfl, rfl, rfl⟩, hk.sto hs, hk.tr ht, hr.of_ren (fun t x hx => (hk.o t x hx).2.1) (.row nk) ?_, Nat.lt_succ_self _⟩
  simp [SV.ren]
theorem RSpec.new {P : Program} {f : FuncId} {args : List SV} {e z : Nat} {xs : List D} (h : RSpec P f args e z xs) (o : Nat → Option AO) (nk : Nat) : Spec P f args o nk fun r o' nk' => r = .row nk ∧ o' = upd o nk (some (.row e z xs)) ∧ nk' = nk + 1 :=
  Spec.newRow (h o nk)
end Go.Proofs.YtpkcbdhjnnnkbaaGreat.Abs

/- Short names: written by absz.py. -/
set_option linter.unusedVariables false
set_option maxRecDepth 10000
namespace Go.Proofs.YtpkcbdhjnnnkbaaGreat.Abs
open Go
section
variable {P : Program} {Θ : Tab} {ops : Array Oper} {K : St → Prop} {r : List Oper} {sl : Nat → SV} {o : Nat → Option AO} {nk d ty t f : Nat} {x y : Operand} {pos : String} {af : Array Edge}
theorem pa {a : D}  (hx : ev sl x = .d a := by rfl) : vOp P Θ (.assign x) ⟨sl, o, nk⟩ (fun v2 o2 nk2 => v2 = .d a ∧ o2 = o ∧ nk2 = nk) := o_assign hx ⟨rfl, rfl, rfl⟩
theorem ua {a : D}  (h : vOps P Θ ops K r ⟨upd sl d (.d a), o, nk⟩) (hx : ev sl x = .d a := by rfl) : vOps P Θ ops K ({ dst := some d, op := .assign x, type := ty, pos := pos, after := af, guard := none } :: r) ⟨sl, o, nk⟩ := u_step (o_assign hx h)
theorem da {a : D}  (h : dOps P Θ ops K r ⟨upd sl d (.d a), o, nk⟩) (hx : ev sl x = .d a := by rfl) : dOps P Θ ops K ({ dst := some d, op := .assign x, type := ty, pos := pos, after := af, guard := none } :: r) ⟨sl, o, nk⟩ := d_step (o_assign hx ⟨rfl, rfl, rfl⟩) h
theorem pm {a : D}  (hx : ev sl x = .d a := by rfl) : vOp P Θ (.move x) ⟨sl, o, nk⟩ (fun v2 o2 nk2 => v2 = .d a ∧ o2 = o ∧ nk2 = nk) := o_move hx ⟨rfl, rfl, rfl⟩
theorem um {a : D}  (h : vOps P Θ ops K r ⟨upd sl d (.d a), o, nk⟩) (hx : ev sl x = .d a := by rfl) : vOps P Θ ops K ({ dst := some d, op := .move x, type := ty, pos := pos, after := af, guard := none } :: r) ⟨sl, o, nk⟩ := u_step (o_move hx h)
theorem dm {a : D}  (h : dOps P Θ ops K r ⟨upd sl d (.d a), o, nk⟩) (hx : ev sl x = .d a := by rfl) : dOps P Θ ops K ({ dst := some d, op := .move x, type := ty, pos := pos, after := af, guard := none } :: r) ⟨sl, o, nk⟩ := d_step (o_move hx ⟨rfl, rfl, rfl⟩) h
theorem pb {bo : BinOp} {u : Nat} {k : IntKind} {m m2 : Int} {q : D}  (hx : ev sl x = .d (.int k m) := by rfl) (hy : ev sl y = .d (.int k m2) := by rfl) (hb : bo ≠ .shl ∧ bo ≠ .shr := by decide) (hr : intBin bo k m m2 = some q := by rfl) : vOp P Θ (.binOp bo t x y u) ⟨sl, o, nk⟩ (fun v2 o2 nk2 => v2 = .d q ∧ o2 = o ∧ nk2 = nk) := o_bin_int hx hy hb hr ⟨rfl, rfl, rfl⟩
theorem ub {bo : BinOp} {u : Nat} {k : IntKind} {m m2 : Int} {q : D}  (h : vOps P Θ ops K r ⟨upd sl d (.d q), o, nk⟩) (hx : ev sl x = .d (.int k m) := by rfl) (hy : ev sl y = .d (.int k m2) := by rfl) (hb : bo ≠ .shl ∧ bo ≠ .shr := by decide) (hr : intBin bo k m m2 = some q := by rfl) : vOps P Θ ops K ({ dst := some d, op := .binOp bo t x y u, type := ty, pos := pos, after := af, guard := none } :: r) ⟨sl, o, nk⟩ := u_step (o_bin_int hx hy hb hr h)
theorem db {bo : BinOp} {u : Nat} {k : IntKind} {m m2 : Int} {q : D}  (h : dOps P Θ ops K r ⟨upd sl d (.d q), o, nk⟩) (hx : ev sl x = .d (.int k m) := by rfl) (hy : ev sl y = .d (.int k m2) := by rfl) (hb : bo ≠ .shl ∧ bo ≠ .shr := by decide) (hr : intBin bo k m m2 = some q := by rfl) : dOps P Θ ops K ({ dst := some d, op := .binOp bo t x y u, type := ty, pos := pos, after := af, guard := none } :: r) ⟨sl, o, nk⟩ := d_step (o_bin_int hx hy hb hr ⟨rfl, rfl, rfl⟩) h
theorem ps {bo : BinOp} {u : Nat} {l l2 : List UInt8} {q : D}  (hx : ev sl x = .d (.str l) := by rfl) (hy : ev sl y = .d (.str l2) := by rfl) (hr : strBin bo l l2 = some q := by rfl) : vOp P Θ (.binOp bo t x y u) ⟨sl, o, nk⟩ (fun v2 o2 nk2 => v2 = .d q ∧ o2 = o ∧ nk2 = nk) := o_bin_str hx hy hr ⟨rfl, rfl, rfl⟩
theorem us {bo : BinOp} {u : Nat} {l l2 : List UInt8} {q : D}  (h : vOps P Θ ops K r ⟨upd sl d (.d q), o, nk⟩) (hx : ev sl x = .d (.str l) := by rfl) (hy : ev sl y = .d (.str l2) := by rfl) (hr : strBin bo l l2 = some q := by rfl) : vOps P Θ ops K ({ dst := some d, op := .binOp bo t x y u, type := ty, pos := pos, after := af, guard := none } :: r) ⟨sl, o, nk⟩ := u_step (o_bin_str hx hy hr h)
theorem ds {bo : BinOp} {u : Nat} {l l2 : List UInt8} {q : D}  (h : dOps P Θ ops K r ⟨upd sl d (.d q), o, nk⟩) (hx : ev sl x = .d (.str l) := by rfl) (hy : ev sl y = .d (.str l2) := by rfl) (hr : strBin bo l l2 = some q := by rfl) : dOps P Θ ops K ({ dst := some d, op := .binOp bo t x y u, type := ty, pos := pos, after := af, guard := none } :: r) ⟨sl, o, nk⟩ := d_step (o_bin_str hx hy hr ⟨rfl, rfl, rfl⟩) h
theorem pA {c : Operand} {p q : Bool}  (hc : ev sl c = .d (.bool p) := by rfl) (hx : ev sl x = cnd p (.d (.bool q)) := by rfl) (hy : ev sl y = .d (.bool false) := by rfl) : vOp P Θ (.pick c x y) ⟨sl, o, nk⟩ (fun v2 o2 nk2 => v2 = .d (.bool (p && q)) ∧ o2 = o ∧ nk2 = nk) := o_pick_and hc hx hy ⟨rfl, rfl, rfl⟩
theorem uA {c : Operand} {p q : Bool}  (h : vOps P Θ ops K r ⟨upd sl d (.d (.bool (p && q))), o, nk⟩) (hc : ev sl c = .d (.bool p) := by rfl) (hx : ev sl x = cnd p (.d (.bool q)) := by rfl) (hy : ev sl y = .d (.bool false) := by rfl) : vOps P Θ ops K ({ dst := some d, op := .pick c x y, type := ty, pos := pos, after := af, guard := none } :: r) ⟨sl, o, nk⟩ := u_step (o_pick_and hc hx hy h)
theorem pO {c : Operand} {p q : Bool}  (hc : ev sl c = .d (.bool p) := by rfl) (hx : ev sl x = .d (.bool true) := by rfl) (hy : ev sl y = cnd (!p) (.d (.bool q)) := by rfl) : vOp P Θ (.pick c x y) ⟨sl, o, nk⟩ (fun v2 o2 nk2 => v2 = .d (.bool (p || q)) ∧ o2 = o ∧ nk2 = nk) := o_pick_or hc hx hy ⟨rfl, rfl, rfl⟩
theorem uO {c : Operand} {p q : Bool}  (h : vOps P Θ ops K r ⟨upd sl d (.d (.bool (p || q))), o, nk⟩) (hc : ev sl c = .d (.bool p) := by rfl) (hx : ev sl x = .d (.bool true) := by rfl) (hy : ev sl y = cnd (!p) (.d (.bool q)) := by rfl) : vOps P Θ ops K ({ dst := some d, op := .pick c x y, type := ty, pos := pos, after := af, guard := none } :: r) ⟨sl, o, nk⟩ := u_step (o_pick_or hc hx hy h)
theorem dO {c : Operand} {p q : Bool}  (h : dOps P Θ ops K r ⟨upd sl d (.d (.bool (p || q))), o, nk⟩) (hc : ev sl c = .d (.bool p) := by rfl) (hx : ev sl x = .d (.bool true) := by rfl) (hy : ev sl y = cnd (!p) (.d (.bool q)) := by rfl) : dOps P Θ ops K ({ dst := some d, op := .pick c x y, type := ty, pos := pos, after := af, guard := none } :: r) ⟨sl, o, nk⟩ := d_step (o_pick_or hc hx hy ⟨rfl, rfl, rfl⟩) h
theorem pf {i j : TI} {fs : List (Nat × Nat)} {off ft k g : Nat} {cs : List SV} (hi : Θ t = some i) (hj : Θ ft = some j) (ho : o k = some (.box cs)) (hx : ev sl x = .loc k g := by rfl) (hk : i.k = .struct fs := by rfl) (hf : fs[f]? = some (off, ft) := by rfl) (hz : j.sz ≠ 0 := by decide) : vOp P Θ (.fieldAddr t x f) ⟨sl, o, nk⟩ (fun v2 o2 nk2 => v2 = .loc k (g + off) ∧ o2 = o ∧ nk2 = nk) := o_fa_loc hx hi hk hf hj hz ho ⟨rfl, rfl, rfl⟩
theorem uf {i j : TI} {fs : List (Nat × Nat)} {off ft k g : Nat} {cs : List SV} (hi : Θ t = some i) (hj : Θ ft = some j) (ho : o k = some (.box cs)) (h : vOps P Θ ops K r ⟨upd sl d (.loc k (g + off)), o, nk⟩) (hx : ev sl x = .loc k g := by rfl) (hk : i.k = .struct fs := by rfl) (hf : fs[f]? = some (off, ft) := by rfl) (hz : j.sz ≠ 0 := by decide) : vOps P Θ ops K ({ dst := some d, op := .fieldAddr t x f, type := ty, pos := pos, after := af, guard := none } :: r) ⟨sl, o, nk⟩ := u_step (o_fa_loc hx hi hk hf hj hz ho h)
theorem df {i j : TI} {fs : List (Nat × Nat)} {off ft k g : Nat} {cs : List SV} (hi : Θ t = some i) (hj : Θ ft = some j) (ho : o k = some (.box cs)) (h : dOps P Θ ops K r ⟨upd sl d (.loc k (g + off)), o, nk⟩) (hx : ev sl x = .loc k g := by rfl) (hk : i.k = .struct fs := by rfl) (hf : fs[f]? = some (off, ft) := by rfl) (hz : j.sz ≠ 0 := by decide) : dOps P Θ ops K ({ dst := some d, op := .fieldAddr t x f, type := ty, pos := pos, after := af, guard := none } :: r) ⟨sl, o, nk⟩ := d_step (o_fa_loc hx hi hk hf hj hz ho ⟨rfl, rfl, rfl⟩) h
theorem pF {a b : D} {i j : TI} {fs : List (Nat × Nat)} {off ft : Nat} (hi : Θ t = some i) (hj : Θ ft = some j) (hx : ev sl x = .el a := by rfl) (hk : i.k = .struct fs := by rfl) (hf : fs[f]? = some (off, ft) := by rfl) (hz : j.sz ≠ 0 := by decide) (hs : a.sub off j.sz j.k.agg = some b := by rfl) : vOp P Θ (.fieldAddr t x f) ⟨sl, o, nk⟩ (fun v2 o2 nk2 => v2 = .el b ∧ o2 = o ∧ nk2 = nk) := o_fa_el hx hi hk hf hj hz hs ⟨rfl, rfl, rfl⟩
theorem dF {a b : D} {i j : TI} {fs : List (Nat × Nat)} {off ft : Nat} (hi : Θ t = some i) (hj : Θ ft = some j) (h : dOps P Θ ops K r ⟨upd sl d (.el b), o, nk⟩) (hx : ev sl x = .el a := by rfl) (hk : i.k = .struct fs := by rfl) (hf : fs[f]? = some (off, ft) := by rfl) (hz : j.sz ≠ 0 := by decide) (hs : a.sub off j.sz j.k.agg = some b := by rfl) : dOps P Θ ops K ({ dst := some d, op := .fieldAddr t x f, type := ty, pos := pos, after := af, guard := none } :: r) ⟨sl, o, nk⟩ := d_step (o_fa_el hx hi hk hf hj hz hs ⟨rfl, rfl, rfl⟩) h
theorem pl {i : TI} {k g : Nat} {cs : List SV} {v : D} (hi : Θ t = some i) (ho : o k = some (.box cs)) (hx : ev sl x = .loc k g := by rfl) (ha : i.k.agg = false := by rfl) (hc : cs[g]? = some (.d v) := by rfl) : vOp P Θ (.load t x) ⟨sl, o, nk⟩ (fun v2 o2 nk2 => v2 = .d v ∧ o2 = o ∧ nk2 = nk) := o_ld_loc hx hi ha ho hc ⟨rfl, rfl, rfl⟩
theorem ul {i : TI} {k g : Nat} {cs : List SV} {v : D} (hi : Θ t = some i) (ho : o k = some (.box cs)) (h : vOps P Θ ops K r ⟨upd sl d (.d v), o, nk⟩) (hx : ev sl x = .loc k g := by rfl) (ha : i.k.agg = false := by rfl) (hc : cs[g]? = some (.d v) := by rfl) : vOps P Θ ops K ({ dst := some d, op := .load t x, type := ty, pos := pos, after := af, guard := none } :: r) ⟨sl, o, nk⟩ := u_step (o_ld_loc hx hi ha ho hc h)
theorem dl {i : TI} {k g : Nat} {cs : List SV} {v : D} (hi : Θ t = some i) (ho : o k = some (.box cs)) (h : dOps P Θ ops K r ⟨upd sl d (.d v), o, nk⟩) (hx : ev sl x = .loc k g := by rfl) (ha : i.k.agg = false := by rfl) (hc : cs[g]? = some (.d v) := by rfl) : dOps P Θ ops K ({ dst := some d, op := .load t x, type := ty, pos := pos, after := af, guard := none } :: r) ⟨sl, o, nk⟩ := d_step (o_ld_loc hx hi ha ho hc ⟨rfl, rfl, rfl⟩) h
theorem pg {i : TI} {k g : Nat} {cs : List SV} {ds : List D} (hi : Θ t = some i) (ho : o k = some (.box cs)) (hx : ev sl x = .loc k g := by rfl) (ha : i.k.agg = true := by rfl) (hc : allD ((cs.drop g).take i.sz) = some ds := by rfl) (hl : ds.length = i.sz := by rfl) (hf : ds.all D.leaf = true := by rfl) : vOp P Θ (.load t x) ⟨sl, o, nk⟩ (fun v2 o2 nk2 => v2 = .d (.agg ds) ∧ o2 = o ∧ nk2 = nk) := o_ld_agg hx hi ha ho hc hl hf ⟨rfl, rfl, rfl⟩
theorem ug {i : TI} {k g : Nat} {cs : List SV} {ds : List D} (hi : Θ t = some i) (ho : o k = some (.box cs)) (h : vOps P Θ ops K r ⟨upd sl d (.d (.agg ds)), o, nk⟩) (hx : ev sl x = .loc k g := by rfl) (ha : i.k.agg = true := by rfl) (hc : allD ((cs.drop g).take i.sz) = some ds := by rfl) (hl : ds.length = i.sz := by rfl) (hf : ds.all D.leaf = true := by rfl) : vOps P Θ ops K ({ dst := some d, op := .load t x, type := ty, pos := pos, after := af, guard := none } :: r) ⟨sl, o, nk⟩ := u_step (o_ld_agg hx hi ha ho hc hl hf h)
theorem pL {a : D} {i : TI} (hi : Θ t = some i) (hx : ev sl x = .el a := by rfl) (h1 : a.leaf = !i.k.agg := by first | rfl | simp only [encV_leaf, encV_width, Bool.not_true, TK.agg]) (h2 : a.width = i.sz := by first | rfl | simp only [encV_leaf, encV_width, Bool.not_true, TK.agg]) : vOp P Θ (.load t x) ⟨sl, o, nk⟩ (fun v2 o2 nk2 => v2 = .d a ∧ o2 = o ∧ nk2 = nk) := o_ld_el hx hi h1 h2 ⟨rfl, rfl, rfl⟩
theorem uL {a : D} {i : TI} (hi : Θ t = some i) (h : vOps P Θ ops K r ⟨upd sl d (.d a), o, nk⟩) (hx : ev sl x = .el a := by rfl) (h1 : a.leaf = !i.k.agg := by first | rfl | simp only [encV_leaf, encV_width, Bool.not_true, TK.agg]) (h2 : a.width = i.sz := by first | rfl | simp only [encV_leaf, encV_width, Bool.not_true, TK.agg]) : vOps P Θ ops K ({ dst := some d, op := .load t x, type := ty, pos := pos, after := af, guard := none } :: r) ⟨sl, o, nk⟩ := u_step (o_ld_el hx hi h1 h2 h)
theorem dL {a : D} {i : TI} (hi : Θ t = some i) (h : dOps P Θ ops K r ⟨upd sl d (.d a), o, nk⟩) (hx : ev sl x = .el a := by rfl) (h1 : a.leaf = !i.k.agg := by first | rfl | simp only [encV_leaf, encV_width, Bool.not_true, TK.agg]) (h2 : a.width = i.sz := by first | rfl | simp only [encV_leaf, encV_width, Bool.not_true, TK.agg]) : dOps P Θ ops K ({ dst := some d, op := .load t x, type := ty, pos := pos, after := af, guard := none } :: r) ⟨sl, o, nk⟩ := d_step (o_ld_el hx hi h1 h2 ⟨rfl, rfl, rfl⟩) h
theorem pn {i : TI} {z e : Nat} {xs : List D} (hi : Θ t = some i) (hx : ev sl x = .d (.sl z xs) := by rfl) (hk : i.k = .slice e := by rfl) : vOp P Θ (.call { callee := .builtin .len, args := #[x], argTypes := #[t] }) ⟨sl, o, nk⟩ (fun v2 o2 nk2 => v2 = .d (.int .i64 xs.length) ∧ o2 = o ∧ nk2 = nk) := o_len_sl hx hi hk ⟨rfl, rfl, rfl⟩
theorem un {i : TI} {z e : Nat} {xs : List D} (hi : Θ t = some i) (h : vOps P Θ ops K r ⟨upd sl d (.d (.int .i64 xs.length)), o, nk⟩) (hx : ev sl x = .d (.sl z xs) := by rfl) (hk : i.k = .slice e := by rfl) : vOps P Θ ops K ({ dst := some d, op := .call { callee := .builtin .len, args := #[x], argTypes := #[t] }, type := ty, pos := pos, after := af, guard := none } :: r) ⟨sl, o, nk⟩ := u_step (o_len_sl hx hi hk h)
theorem dn {i : TI} {z e : Nat} {xs : List D} (hi : Θ t = some i) (h : dOps P Θ ops K r ⟨upd sl d (.d (.int .i64 xs.length)), o, nk⟩) (hx : ev sl x = .d (.sl z xs) := by rfl) (hk : i.k = .slice e := by rfl) : dOps P Θ ops K ({ dst := some d, op := .call { callee := .builtin .len, args := #[x], argTypes := #[t] }, type := ty, pos := pos, after := af, guard := none } :: r) ⟨sl, o, nk⟩ := d_step (o_len_sl hx hi hk ⟨rfl, rfl, rfl⟩) h
theorem ue {q : Nat} {xs : List SV} {c : SV}  (h : vOps P Θ ops K r ⟨upd sl d (c), o, nk⟩) (hx : ev sl x = .tup xs := by rfl) (hq : xs[q]? = some c := by rfl) : vOps P Θ ops K ({ dst := some d, op := .extract x q, type := ty, pos := pos, after := af, guard := none } :: r) ⟨sl, o, nk⟩ := u_step (o_ext hx hq h)
theorem pc {i j : TI} {e : Nat} {k k2 : IntKind} {m : Int} (hi : Θ t = some i) (hj : Θ e = some j) (hx : ev sl x = .d (.int k m) := by rfl) (hk : j.k = .int k2 := by rfl) : vOp P Θ (.convert t e x) ⟨sl, o, nk⟩ (fun v2 o2 nk2 => v2 = .d (.int k2 (k2.wrap m)) ∧ o2 = o ∧ nk2 = nk) := o_cv_int hx hi hj hk ⟨rfl, rfl, rfl⟩
theorem uc {i j : TI} {e : Nat} {k k2 : IntKind} {m : Int} (hi : Θ t = some i) (hj : Θ e = some j) (h : vOps P Θ ops K r ⟨upd sl d (.d (.int k2 (k2.wrap m))), o, nk⟩) (hx : ev sl x = .d (.int k m) := by rfl) (hk : j.k = .int k2 := by rfl) : vOps P Θ ops K ({ dst := some d, op := .convert t e x, type := ty, pos := pos, after := af, guard := none } :: r) ⟨sl, o, nk⟩ := u_step (o_cv_int hx hi hj hk h)
theorem pN {p : Bool}  (hx : ev sl x = .d (.bool p) := by rfl) : vOp P Θ (.unOp .not t x) ⟨sl, o, nk⟩ (fun v2 o2 nk2 => v2 = .d (.bool (!p)) ∧ o2 = o ∧ nk2 = nk) := o_not hx ⟨rfl, rfl, rfl⟩
theorem uN {p : Bool}  (h : vOps P Θ ops K r ⟨upd sl d (.d (.bool (!p))), o, nk⟩) (hx : ev sl x = .d (.bool p) := by rfl) : vOps P Θ ops K ({ dst := some d, op := .unOp .not t x, type := ty, pos := pos, after := af, guard := none } :: r) ⟨sl, o, nk⟩ := u_step (o_not hx h)
theorem dN {p : Bool}  (h : dOps P Θ ops K r ⟨upd sl d (.d (.bool (!p))), o, nk⟩) (hx : ev sl x = .d (.bool p) := by rfl) : dOps P Θ ops K ({ dst := some d, op := .unOp .not t x, type := ty, pos := pos, after := af, guard := none } :: r) ⟨sl, o, nk⟩ := d_step (o_not hx ⟨rfl, rfl, rfl⟩) h
theorem gT {j : Nat} {op : Op} {v : SV} {b : Bool} (hb : gsl ops ⟨sl, o, nk⟩ j = .d (.bool b)) (h : b = true → vOp P Θ op ⟨sl, o, nk⟩ fun v2 o2 nk2 => v2 = v ∧ o2 = o ∧ nk2 = nk) (k : vOps P Θ ops K r ⟨upd sl d (cnd b v), o, nk⟩) :
    vOps P Θ ops K ({ dst := some d, op := op, type := ty, pos := pos, after := af, guard := some (j, true) } :: r) ⟨sl, o, nk⟩ := u_guard (by rw [hb]; exact GC.t _) h k
theorem gF {j : Nat} {op : Op} {v : SV} {b : Bool} (hb : gsl ops ⟨sl, o, nk⟩ j = .d (.bool b)) (h : (!b) = true → vOp P Θ op ⟨sl, o, nk⟩ fun v2 o2 nk2 => v2 = v ∧ o2 = o ∧ nk2 = nk) (k : vOps P Θ ops K r ⟨upd sl d (cnd (!b) v), o, nk⟩) :
    vOps P Θ ops K ({ dst := some d, op := op, type := ty, pos := pos, after := af, guard := some (j, false) } :: r) ⟨sl, o, nk⟩ := u_guard (by rw [hb]; exact GC.f _) h k
theorem ct (v : SV) : cnd true v = v := cnd_true v
theorem Bt (a : Bool) : (true && a) = a := Bool.true_and a
end
section
variable {n k0 : Nat} {Q : Exit → St → Prop} {s : St} {id : Nat} {l : List Oper} {c e : Code}
theorem wr (h : vOps Tryz.prog Θ l.toArray (fun s2 => WP Tryz.prog n k0 c s2 Q) l s) (hd : (l.all fun o => dstOk n o.dst) = true := by rfl) : WP Tryz.prog n k0 (.seq (.region id l.toArray false) c) s Q :=
  WP.seq fun K hK => WP.mono (WP.reg (Q := Qthen (fun s2 => WP Tryz.prog n k0 c s2 Q) Q) tabOk hd h) fun e s2 hq => by
    cases e with
    | normal => exact hK s2 hq
    | _ => exact hq
theorem mix : (Tryz.prog).follows .mixedOrders = true := by kernel_rfl
theorem wd (h : dOps Tryz.prog Θ l.toArray (fun s2 => WP Tryz.prog n k0 c s2 Q) l s) (hd : (l.all fun o => dstOk n o.dst) = true := by rfl) (hf : flowOk l.toArray = true := by kernel_rfl) : WP Tryz.prog n k0 (.seq (.region id l.toArray true) c) s Q :=
  WP.seq fun K hK => WP.mono (WP.drw (Q := Qthen (fun s2 => WP Tryz.prog n k0 c s2 Q) Q) tabOk mix hd hf h) fun e s2 hq => by
    cases e with
    | normal => exact hK s2 hq
    | _ => exact hq
theorem wc {x : Operand} {b : Bool} (ht : b = true → WP Tryz.prog n k0 c s Q) (hf : b = false → WP Tryz.prog n k0 e s Q) (hx : ev s.sl x = .d (.bool b) := by rfl) : WP Tryz.prog n k0 (.cond x c e) s Q := WP.cond hx ht hf
end
end Go.Proofs.YtpkcbdhjnnnkbaaGreat.Abs

set_option linter.unusedVariables false
set_option linter.unusedSimpArgs false
set_option maxRecDepth 10000
namespace Go.Proofs.YtpkcbdhjnnnkbaaGreat.Abs
open Go
theorem take_snoc {x : Str} {i : Nat} (h : i < x.length) : x.take (i + 1) = x.take i ++ [x[i]] := List.take_succ_eq_append_getElem h

theorem fn113 : FnOk Tryz.prog 113 27 [2] (bodyOf Tryz.f113) := ⟨Tryz.f113, Tryz.func113, by kernel_rfl, by decide, by kernel_rfl, by kernel_rfl⟩
theorem s113 (x : Str) : PSpec Tryz.prog 113 [.d (.str x)] (.d (.bool (nameV x))) := by
 refine PSpec.bd fun hbd => ?_
 have hx : x.length ≤ 9223372036854775807 := hbd.1
 refine PSpec.of fn113 (by simp) fun o nk => ?_
 refine wr ?_
 refine ua ?_
 refine u_nil ?_
 refine WP.seq fun K2 hK2 => ?_
 refine wr ?_
 refine ua ?_
 refine u_nil ?_
 refine WP.block ?_
 refine WP.loopL (ι := Nat) (fun i => ⟨al [(0, .d (.str x)), (3, .d (.int .i64 i))], o, nk⟩) (fun i => i ≤ x.length ∧ (46 : UInt8) ∉ x.take i) (fun i => x.length - i) (fun i hA => ?_) 0 ?_ ?_
 ·
  obtain ⟨h1, h2⟩ := hA
  refine WP.seq fun K4 hK4 => ?_
  refine wr ?_
  refine um ?_
  refine um ?_
  refine u_step (o_len_str rfl th9 rfl ?_)
  refine ub ?_
  refine u_nil ?_
  refine wc (fun hc6 => ?_) (fun hc6 => ?_) <;> try simp only [Q0, Q1, Q2, Q3, Q4, Q5, Q6, Q7, Q8, ge_iff_le, gt_iff_lt] at hc6
  ·
   refine WP.skip ?_
   refine hK4 _ ?_
   refine WP.seq fun K7 hK7 => ?_
   refine WP.block ?_
   refine wr ?_
   refine um ?_
   refine um ?_
   refine u_step (o_ix rfl rfl th9 rfl ?_ ?_ ?_)
   · exact Int.natCast_nonneg _
   · simpa using hc6
   refine ub ?_
   refine u_nil ?_
   refine wc (fun hc9 => ?_) (fun hc9 => ?_) <;> try simp only [Q0, Q1, Q2, Q3, Q4, Q5, Q6, Q7, Q8, ge_iff_le, gt_iff_lt] at hc9
   ·
    refine wr ?_
    refine ua ?_
    refine u_nil ?_
    refine WP.ret ?_
    refine ret_ok rfl ?_ (by omega) (fun _ _ => rfl)
    -- ret 1
    have hlt : i < x.length := by simpa using hc6
    have he : x[i] = 46 := by
      rw [bAt_eq (by simpa using hlt)] at hc9
      simp only [Int.toNat_natCast, beq_iff_eq] at hc9
      exact (toNat_eq (n := 46) (by omega)).1 hc9
    have hm : (46 : UInt8) ∈ x := he ▸ List.getElem_mem hlt
    simp [nameV, hm]
   ·
    refine WP.skip ?_
    refine hK7 _ ?_
    refine WP.reg tabOk rfl ?_
    refine um ?_
    refine ub ?_
    refine ua ?_
    refine u_nil ?_
    -- back
    have hlt : i < x.length := by omega
    have hne : x[i] ≠ 46 := fun e => by rw [bAt_eq (by simpa using hlt)] at hc9; simp [e] at hc9
    refine ⟨i + 1, ⟨by omega, ?_⟩, by omega, ?_⟩
    · rw [take_snoc hlt]; simp only [List.mem_append, List.mem_singleton, not_or]; exact ⟨h2, fun e => hne e.symm⟩
    · refine Le.al ?_
      simp only [List.forall_mem_cons]
      exact ⟨rfl, cnt (by omega), by simp⟩
  ·
   refine WP.exit ?_
   refine hK2 _ ?_
   refine wr ?_
   refine um ?_
   refine u_step (o_len_str rfl th9 rfl ?_)
   refine ub ?_
   refine um ?_
   apply gT
   · rfl
   · intro hg
     exact pm
   apply gT
   · rfl
   · intro hg; try simp only [hg, ct]; try simp only [hg, ct, Bt]
     refine o_len_str rfl th9 rfl ⟨rfl, rfl, rfl⟩
   apply gT
   · rfl
   · intro hg; try simp only [hg, ct]; try simp only [hg, ct, Bt]
     exact pb
   refine uA ?_
   refine um ?_
   apply gT
   · rfl
   · intro hg
     exact pm
   apply gT
   · rfl
   · intro hg; try simp only [hg, ct]; try simp only [hg, ct, Bt]
     have hg2 := hg; try simp only [Q0, Q1, Q2, Q3, Q4, Q5, Q6, Q9, Qa, Qb, Qc, Qd] at hg2
     refine o_ix rfl rfl th9 rfl ?_ ?_ ⟨rfl, rfl, rfl⟩
     · decide
     · simp at hg ⊢; omega
   apply gT
   · rfl
   · intro hg; try simp only [hg, ct]; try simp only [hg, ct, Bt]
     exact pb
   refine uA ?_
   refine ua ?_
   refine u_nil ?_
   refine WP.ret ?_
   refine ret_ok rfl ?_ (by omega) (fun _ _ => rfl)
   -- ret 2
   have hi : i = x.length := by omega
   subst hi
   rw [List.take_length] at h2
   refine congrArg D.bool ?_
   rw [Bool.eq_iff_iff]
   simp only [nameV, Bool.and_eq_true, decide_eq_true_eq, bne_iff_ne, ne_eq]
   by_cases h0 : 0 < x.length
   · rw [bAt_eq (by simpa using h0)]
     have h3 := toNat_eq (c := x[0]) (n := 36) (by omega)
     simp only [Int.toNat_zero, List.getElem?_eq_getElem h0, Option.some.injEq] at h3 ⊢
     have h4 : (36 : Int) = ((36 : Nat) : Int) := rfl
     rw [h4, h3]
     constructor
     · rintro ⟨⟨h5, h6⟩, h7⟩; exact ⟨by omega, by omega, h7, h2⟩
     · rintro ⟨h5, h6, h7, h8⟩; exact ⟨⟨by omega, by omega⟩, h7⟩
   · constructor
     · rintro ⟨⟨h5, h6⟩, h7⟩; omega
     · rintro ⟨h5, h6, h7, h8⟩; omega
 ·
  simp
 ·
  refine Le.al ?_
  simp only [List.forall_mem_cons]
  exact ⟨rfl, rfl, by simp⟩

end Go.Proofs.YtpkcbdhjnnnkbaaGreat.Abs

set_option linter.unusedVariables false
set_option linter.unusedSimpArgs false
set_option maxRecDepth 10000
namespace Go.Proofs.YtpkcbdhjnnnkbaaGreat.Abs
open Go

theorem fn58 : FnOk Tryz.prog 58 24 [2] (bodyOf Tryz.f58) := ⟨Tryz.f58, Tryz.func58, by kernel_rfl, by decide, by kernel_rfl, by kernel_rfl⟩
theorem s58 (ns : List Str) : PSpec Tryz.prog 58 [.d (.sl 1 (ns.map .str))] (.d (.bool (pathV ns))) := by
 refine PSpec.bd fun hbd => ?_
 have hx : ns.length ≤ 9223372036854775807 := by simpa using hbd.1.1
 refine PSpec.of fn58 (by simp) fun o nk => ?_
 refine wr ?_
 refine ua ?_
 refine u_nil ?_
 refine WP.seq fun K2 hK2 => ?_
 refine wr ?_
 refine ua ?_
 refine u_nil ?_
 refine WP.block ?_
 refine WP.loopL (ι := Nat) (fun i => ⟨al [(0, .d (.sl 1 (ns.map .str))), (3, .d (.int .i64 i))], o, nk⟩) (fun i => i ≤ ns.length ∧ (ns.take i).all nameV = true) (fun i => ns.length - i) (fun i hA => ?_) 0 ?_ ?_
 ·
  obtain ⟨hle_i, hin_i⟩ := hA
  refine WP.seq fun K4 hK4 => ?_
  refine wr ?_
  refine um ?_
  refine um ?_
  refine un th22 ?_
  refine ub ?_
  refine u_nil ?_
  refine wc (fun hc6 => ?_) (fun hc6 => ?_) <;> try simp only [Q0, Q1, Q2, Q3, Q4, Q5, Q6, Q7, Q8, ge_iff_le, gt_iff_lt] at hc6
  ·
   refine WP.skip ?_
   refine hK4 _ ?_
   refine WP.seq fun K7 hK7 => ?_
   refine WP.block ?_
   refine wr ?_
   refine um ?_
   refine um ?_
   first | refine u_step (o_ia_map rfl rfl th22 rfl th9 rfl (by omega) ?_) | refine u_step (o_ia_vs rfl rfl th22 rfl th9 rfl (by omega) ?_)
   refine uL th9 ?_
   refine u_step (o_pcall (s113 _) rfl ?_)
   refine uN ?_
   refine u_nil ?_
   refine wc (fun hc9 => ?_) (fun hc9 => ?_) <;> try simp only [Q0, Q1, Q2, Q3, Q4, Q5, Q6, Q7, Q8, ge_iff_le, gt_iff_lt] at hc9
   ·
    refine wr ?_
    refine ua ?_
    refine u_nil ?_
    refine WP.ret ?_
    refine ret_ok rfl ?_ (by omega) (fun _ _ => rfl)
    -- ret 1
    have h1 := all_false (p := nameV) (by omega : i < ns.length) hc9
    simp [pathV, h1]
   ·
    refine WP.skip ?_
    refine hK7 _ ?_
    refine WP.reg tabOk rfl ?_
    refine um ?_
    refine ub ?_
    refine ua ?_
    refine u_nil ?_
    -- back
    refine ⟨i + 1, ⟨by omega, ?_⟩, by omega, ?_⟩
    · rw [all_snoc (by omega), hin_i, hc9]; rfl
    · refine Le.al ?_
      simp only [List.forall_mem_cons]
      exact ⟨rfl, cnt (by omega), by simp⟩
  ·
   refine WP.exit ?_
   refine hK2 _ ?_
   refine wr ?_
   refine um ?_
   refine un th22 ?_
   refine ub ?_
   refine um ?_
   apply gT
   · rfl
   · intro hg
     exact pm
   apply gT
   · rfl
   · intro hg; try simp only [hg, ct]; try simp only [hg, ct, Bt]
     exact pn th22
   apply gT
   · rfl
   · intro hg; try simp only [hg, ct]; try simp only [hg, ct, Bt]
     exact pb
   refine uA ?_
   refine ua ?_
   refine u_nil ?_
   refine WP.ret ?_
   refine ret_ok rfl ?_ (by omega) (fun _ _ => rfl)
   -- ret 2
   have h1 := all_true hc6 hin_i
   refine congrArg D.bool ?_
   rw [Bool.eq_iff_iff]
   simp [pathV, h1]
   omega
 ·
  simp
 ·
  refine Le.al ?_
  simp only [List.forall_mem_cons]
  exact ⟨rfl, rfl, by simp⟩

theorem fn134 : FnOk Tryz.prog 134 25 [2] (bodyOf Tryz.f134) := ⟨Tryz.f134, Tryz.func134, by kernel_rfl, by decide, by kernel_rfl, by kernel_rfl⟩
theorem s134 (ns : List Str) : PSpec Tryz.prog 134 [.d (.sl 1 (ns.map .str))] (.d (.bool (twiceV ns))) := by
 refine PSpec.bd fun hbd => ?_
 have hx : ns.length ≤ 9223372036854775807 := by simpa using hbd.1.1
 refine PSpec.of fn134 (by simp) fun o nk => ?_
 refine wr ?_
 refine ua ?_
 refine u_nil ?_
 refine WP.seq fun K2 hK2 => ?_
 refine wr ?_
 refine ua ?_
 refine u_nil ?_
 refine WP.block ?_
 refine WP.loopL (ι := Nat) (fun i => ⟨al [(0, .d (.sl 1 (ns.map .str))), (3, .d (.int .i64 i))], o, nk⟩) (fun i => i ≤ ns.length ∧ ∀ (a b : Nat) (ha : a < ns.length) (hb : b < ns.length), a < b → b < i → ns[a] ≠ ns[b]) (fun i => ns.length - i) (fun i hA => ?_) 0 ?_ ?_
 ·
  obtain ⟨hle_i, hin_i⟩ := hA
  refine WP.seq fun K4 hK4 => ?_
  refine wr ?_
  refine um ?_
  refine um ?_
  refine un th22 ?_
  refine ub ?_
  refine u_nil ?_
  refine wc (fun hc6 => ?_) (fun hc6 => ?_) <;> try simp only [Q0, Q1, Q2, Q3, Q4, Q5, Q6, Q7, Q8, ge_iff_le, gt_iff_lt] at hc6
  ·
   refine WP.skip ?_
   refine hK4 _ ?_
   refine WP.seq fun K7 hK7 => ?_
   refine WP.block ?_
   refine wr ?_
   refine ua ?_
   refine u_nil ?_
   refine WP.block ?_
   refine WP.loopL (ι := Nat) (fun j => ⟨al [(0, .d (.sl 1 (ns.map .str))), (3, .d (.int .i64 i)), (4, .d (.int .i64 j))], o, nk⟩) (fun j => j ≤ i ∧ ∀ (a : Nat) (ha : a < ns.length), a < j → ns[i] ≠ ns[a]) (fun j => i - j) (fun j hA => ?_) 0 ?_ ?_
   ·
    obtain ⟨hle_j, hin_j⟩ := hA
    refine WP.seq fun K9 hK9 => ?_
    refine wr ?_
    refine um ?_
    refine um ?_
    refine ub ?_
    refine u_nil ?_
    refine wc (fun hc11 => ?_) (fun hc11 => ?_) <;> try simp only [Q0, Q1, Q2, Q3, Q4, Q5, Q6, Q7, Q8, ge_iff_le, gt_iff_lt] at hc11
    ·
     refine WP.skip ?_
     refine hK9 _ ?_
     refine WP.seq fun K12 hK12 => ?_
     refine WP.block ?_
     refine wd ?_
     refine dm ?_
     refine dm ?_
     first | refine d_step (o_ia_map rfl rfl th22 rfl th9 rfl (by omega) ⟨rfl, rfl, rfl⟩) ?_ | refine d_step (o_ia_vs rfl rfl th22 rfl th9 rfl (by omega) ⟨rfl, rfl, rfl⟩) ?_
     refine dL th9 ?_
     refine dm ?_
     refine dm ?_
     first | refine d_step (o_ia_map rfl rfl th22 rfl th9 rfl (by omega) ⟨rfl, rfl, rfl⟩) ?_ | refine d_step (o_ia_vs rfl rfl th22 rfl th9 rfl (by omega) ⟨rfl, rfl, rfl⟩) ?_
     refine dL th9 ?_
     refine ds ?_
     refine d_nil ?_
     refine wc (fun hc14 => ?_) (fun hc14 => ?_) <;> try simp only [Q0, Q1, Q2, Q3, Q4, Q5, Q6, Q7, Q8, ge_iff_le, gt_iff_lt] at hc14
     ·
      refine wr ?_
      refine ua ?_
      refine u_nil ?_
      refine WP.ret ?_
      refine ret_ok rfl ?_ (by omega) (fun _ _ => rfl)
      -- ret 1
      rw [twice_true (by omega) hc11 hc14]
     ·
      refine WP.skip ?_
      refine hK12 _ ?_
      refine WP.reg tabOk rfl ?_
      refine um ?_
      refine ub ?_
      refine ua ?_
      refine u_nil ?_
      -- back
      refine ⟨j + 1, ⟨by omega, ?_⟩, by omega, ?_⟩
      · intro a ha h1
        by_cases haj : a = j
        · subst haj; exact hc14
        · exact hin_j a ha (by omega)
      · refine Le.al ?_
        simp only [List.forall_mem_cons]
        exact ⟨rfl, rfl, cnt (by omega), by simp⟩
    ·
     refine WP.exit ?_
     refine hK7 _ ?_
     refine WP.reg tabOk rfl ?_
     refine um ?_
     refine ub ?_
     refine ua ?_
     refine u_nil ?_
     -- back
     refine ⟨i + 1, ⟨by omega, ?_⟩, by omega, ?_⟩
     · intro a b ha hb h1 h2
       by_cases hbi : b = i
       · subst hbi; exact fun e => hin_j a ha (by omega) e.symm
       · exact hin_i a b ha hb h1 (by omega)
     · refine Le.al ?_
       simp only [List.forall_mem_cons]
       exact ⟨rfl, cnt (by omega), by simp⟩
   ·
    simp
   ·
    refine Le.al ?_
    simp only [List.forall_mem_cons]
    exact ⟨rfl, rfl, rfl, by simp⟩
  ·
   refine WP.exit ?_
   refine hK2 _ ?_
   refine wr ?_
   refine ua ?_
   refine u_nil ?_
   refine WP.ret ?_
   refine ret_ok rfl ?_ (by omega) (fun _ _ => rfl)
   -- ret 2
   rw [twice_false fun a b ha hb h1 => hin_i a b ha hb h1 (by omega)]
 ·
  simp
 ·
  refine Le.al ?_
  simp only [List.forall_mem_cons]
  exact ⟨rfl, rfl, by simp⟩

theorem fn80 : FnOk Tryz.prog 80 146 [2] (bodyOf Tryz.f80) := ⟨Tryz.f80, Tryz.func80, by kernel_rfl, by decide, by kernel_rfl, by kernel_rfl⟩
theorem s80A (m : Nat) : ∀ v : Val, SizeOf.sizeOf v < m → PSpec Tryz.prog 80 [.d (encV v)] (.d (.bool (mayV v))) := by
 induction m with
 | zero => intros; omega
 | succ m ih =>
  rintro ⟨kd, it, tx, xs, ns⟩ hv
  refine PSpec.bd fun hbd => ?_
  have hx : xs.length ≤ 9223372036854775807 := by simpa [encVs_length] using hbd.1.2.2.2.1.1
  have hx2 : ns.length ≤ 9223372036854775807 := by simpa using hbd.1.2.2.2.2.1.1
  refine PSpec.of fn80 (by simp) fun o nk => ?_
  refine wr ?_
  refine u_step (g_box rfl fun o2 hb2 hk2 => ?_)
  refine ua ?_
  refine u_nil ?_
  refine WP.seq fun K3 hK3 => ?_
  refine wr ?_
  refine ua ?_
  refine u_nil ?_
  refine WP.block ?_
  refine WP.loopL (ι := Nat) (fun i => ⟨al [(1, .loc nk 0), (3, .d (.int .i64 i))], o2, (nk + 1)⟩) (fun i => i ≤ xs.length ∧ (xs.take i).all mayV = true) (fun i => xs.length - i) (fun i hA => ?_) 0 ?_ ?_
  ·
   obtain ⟨hle_i, hin_i⟩ := hA
   refine WP.seq fun K5 hK5 => ?_
   refine wr ?_
   refine um ?_
   refine uf th27 th25 hb2 ?_
   refine ul th25 hb2 ?_
   refine un th25 ?_
   refine ub ?_
   refine u_nil ?_
   refine wc (fun hc7 => ?_) (fun hc7 => ?_) <;> try simp only [Q0, Q1, Q2, Q3, Q4, Q5, Q6, Q7, Q8, ge_iff_le, gt_iff_lt] at hc7
   ·
    refine WP.skip ?_
    refine hK5 _ ?_
    refine WP.seq fun K8 hK8 => ?_
    refine WP.block ?_
    refine wr ?_
    refine uf th27 th25 hb2 ?_
    refine ul th25 hb2 ?_
    refine um ?_
    first | refine u_step (o_ia_map rfl rfl th25 rfl th27 rfl (by omega) ?_) | refine u_step (o_ia_vs rfl rfl th25 rfl th27 rfl (by omega) ?_)
    refine uL th27 ?_
    refine u_step (o_pcall (ih _ (by exact items_lt' (by omega) hv)) rfl ?_)
    refine uN ?_
    refine u_nil ?_
    refine wc (fun hc10 => ?_) (fun hc10 => ?_) <;> try simp only [Q0, Q1, Q2, Q3, Q4, Q5, Q6, Q7, Q8, ge_iff_le, gt_iff_lt] at hc10
    ·
     refine wr ?_
     refine ua ?_
     refine u_nil ?_
     refine WP.ret ?_
     refine ret_ok rfl ?_ (by omega) (fun t ht => (hk2 t (by omega)))
     -- ret 1
     have h1 := all_false (p := mayV) (by omega : i < xs.length) hc10
     simp [mayV, maysV_all, h1]
    ·
     refine WP.skip ?_
     refine hK8 _ ?_
     refine WP.reg tabOk rfl ?_
     refine um ?_
     refine ub ?_
     refine ua ?_
     refine u_nil ?_
     -- back
     refine ⟨i + 1, ⟨by omega, ?_⟩, by omega, ?_⟩
     · rw [all_snoc (by omega), hin_i]
       simp_all
     · refine Le.al ?_
       simp only [List.forall_mem_cons]
       exact ⟨rfl, cnt (by omega), by simp⟩
   ·
    refine WP.exit ?_
    refine hK3 _ ?_
    refine WP.seq fun K12 hK12 => ?_
    refine wr ?_
    refine ua ?_
    refine u_nil ?_
    refine WP.block ?_
    refine WP.loopL (ι := Nat) (fun j => ⟨al [(1, .loc nk 0), (4, .d (.int .i64 j))], o2, (nk + 1)⟩) (fun j => j ≤ ns.length ∧ (ns.take j).all nameV = true) (fun j => ns.length - j) (fun j hA => ?_) 0 ?_ ?_
    ·
     obtain ⟨hle_j, hin_j⟩ := hA
     refine WP.seq fun K14 hK14 => ?_
     refine wr ?_
     refine um ?_
     refine uf th27 th22 hb2 ?_
     refine ul th22 hb2 ?_
     refine un th22 ?_
     refine ub ?_
     refine u_nil ?_
     refine wc (fun hc16 => ?_) (fun hc16 => ?_) <;> try simp only [Q0, Q1, Q2, Q3, Q4, Q5, Q6, Q7, Q8, ge_iff_le, gt_iff_lt] at hc16
     ·
      refine WP.skip ?_
      refine hK14 _ ?_
      refine WP.seq fun K17 hK17 => ?_
      refine WP.block ?_
      refine wr ?_
      refine uf th27 th22 hb2 ?_
      refine ul th22 hb2 ?_
      refine um ?_
      first | refine u_step (o_ia_map rfl rfl th22 rfl th9 rfl (by omega) ?_) | refine u_step (o_ia_vs rfl rfl th22 rfl th9 rfl (by omega) ?_)
      refine uL th9 ?_
      refine u_step (o_pcall (s113 _) rfl ?_)
      refine uN ?_
      refine u_nil ?_
      refine wc (fun hc19 => ?_) (fun hc19 => ?_) <;> try simp only [Q0, Q1, Q2, Q3, Q4, Q5, Q6, Q7, Q8, ge_iff_le, gt_iff_lt] at hc19
      ·
       refine wr ?_
       refine ua ?_
       refine u_nil ?_
       refine WP.ret ?_
       refine ret_ok rfl ?_ (by omega) (fun t ht => (hk2 t (by omega)))
       -- ret 2
       have h1 := all_false (p := nameV) (by omega : j < ns.length) hc19
       simp [mayV, h1]
      ·
       refine WP.skip ?_
       refine hK17 _ ?_
       refine WP.reg tabOk rfl ?_
       refine um ?_
       refine ub ?_
       refine ua ?_
       refine u_nil ?_
       -- back
       refine ⟨j + 1, ⟨by omega, ?_⟩, by omega, ?_⟩
       · rw [all_snoc (by omega), hin_j]
         simp_all
       · refine Le.al ?_
         simp only [List.forall_mem_cons]
         exact ⟨rfl, cnt (by omega), by simp⟩
     ·
      refine WP.exit ?_
      refine hK12 _ ?_
      refine wd ?_
      refine df th27 th25 hb2 ?_
      refine dl th25 hb2 ?_
      refine dn th25 ?_
      refine df th27 th22 hb2 ?_
      refine dl th22 hb2 ?_
      refine dn th22 ?_
      refine da ?_
      refine da ?_
      refine d_nil ?_
      refine WP.seq fun K22 hK22 => ?_
      refine wr ?_
      refine uf th27 th3 hb2 ?_
      refine ul th3 hb2 ?_
      refine u_nil ?_
      refine WP.block ?_
      refine wr ?_
      refine ub ?_
      refine ua ?_
      refine u_nil ?_
      refine wc (fun hc25 => ?_) (fun hc25 => ?_) <;> try simp only [Q0, Q1, Q2, Q3, Q4, Q5, Q6, Q7, Q8, ge_iff_le, gt_iff_lt] at hc25
      ·
       refine wr ?_
       refine uf th27 th3 hb2 ?_
       refine ul th3 hb2 ?_
       refine ub ?_
       refine um ?_
       apply gT
       · rfl
       · intro hg
         exact pf th27 th9 hb2
       apply gT
       · rfl
       · intro hg; try simp only [hg, ct]; try simp only [hg, ct, Bt]
         exact pl th9 hb2
       apply gT
       · rfl
       · intro hg; try simp only [hg, ct]; try simp only [hg, ct, Bt]
         refine o_bin_str rfl (show _ = SV.d (.str []) from rfl) rfl ⟨rfl, rfl, rfl⟩
       refine uA ?_
       refine um ?_
       apply gT
       · rfl
       · intro hg
         exact pm
       apply gT
       · rfl
       · intro hg; try simp only [hg, ct]; try simp only [hg, ct, Bt]
         exact pb
       refine uA ?_
       refine um ?_
       apply gT
       · rfl
       · intro hg
         exact pm
       apply gT
       · rfl
       · intro hg; try simp only [hg, ct]; try simp only [hg, ct, Bt]
         exact pb
       refine uA ?_
       refine ua ?_
       refine u_nil ?_
       refine WP.ret ?_
       refine ret_ok rfl ?_ (by omega) (fun t ht => (hk2 t (by omega)))
       -- ret 3
       have h1 := all_true (by omega) hin_i
       have h2 := all_true (by omega) hin_j
       refine congrArg D.bool ?_
       have e1 := encVs_length xs
       try simp only [beq_iff_eq, beq_eq_false_iff_ne] at hc7 hc16 hc25
       rw [Bool.eq_iff_iff]
       simp [mayV, maysV_all, h1, h2, kindOk, e1, hc7, hc16, hc25]
       try omega
      ·
       refine wr ?_
       refine ub ?_
       refine ua ?_
       refine u_nil ?_
       refine wc (fun hc28 => ?_) (fun hc28 => ?_) <;> try simp only [Q0, Q1, Q2, Q3, Q4, Q5, Q6, Q7, Q8, ge_iff_le, gt_iff_lt] at hc28
       ·
        refine wr ?_
        refine uf th27 th3 hb2 ?_
        refine ul th3 hb2 ?_
        refine ub ?_
        refine um ?_
        apply gT
        · rfl
        · intro hg
          exact pf th27 th3 hb2
        apply gT
        · rfl
        · intro hg; try simp only [hg, ct]; try simp only [hg, ct, Bt]
          exact pl th3 hb2
        apply gT
        · rfl
        · intro hg; try simp only [hg, ct]; try simp only [hg, ct, Bt]
          exact pb
        refine uA ?_
        refine um ?_
        apply gT
        · rfl
        · intro hg
          exact pf th27 th9 hb2
        apply gT
        · rfl
        · intro hg; try simp only [hg, ct]; try simp only [hg, ct, Bt]
          exact pl th9 hb2
        apply gT
        · rfl
        · intro hg; try simp only [hg, ct]; try simp only [hg, ct, Bt]
          refine o_bin_str rfl (show _ = SV.d (.str []) from rfl) rfl ⟨rfl, rfl, rfl⟩
        refine uA ?_
        refine um ?_
        apply gT
        · rfl
        · intro hg
          exact pm
        apply gT
        · rfl
        · intro hg; try simp only [hg, ct]; try simp only [hg, ct, Bt]
          exact pb
        refine uA ?_
        refine um ?_
        apply gT
        · rfl
        · intro hg
          exact pm
        apply gT
        · rfl
        · intro hg; try simp only [hg, ct]; try simp only [hg, ct, Bt]
          exact pb
        refine uA ?_
        refine ua ?_
        refine u_nil ?_
        refine WP.ret ?_
        refine ret_ok rfl ?_ (by omega) (fun t ht => (hk2 t (by omega)))
        -- ret 4
        have h1 := all_true (by omega) hin_i
        have h2 := all_true (by omega) hin_j
        refine congrArg D.bool ?_
        have e1 := encVs_length xs
        try simp only [beq_iff_eq, beq_eq_false_iff_ne] at hc7 hc16 hc25 hc28
        rw [Bool.eq_iff_iff]
        simp [mayV, maysV_all, h1, h2, kindOk, e1, hc7, hc16, hc25, hc28]
        try omega
       ·
        refine wr ?_
        refine ub ?_
        refine ua ?_
        refine u_nil ?_
        refine wc (fun hc31 => ?_) (fun hc31 => ?_) <;> try simp only [Q0, Q1, Q2, Q3, Q4, Q5, Q6, Q7, Q8, ge_iff_le, gt_iff_lt] at hc31
        ·
         refine wr ?_
         refine uf th27 th9 hb2 ?_
         refine ul th9 hb2 ?_
         refine u_step (o_bin_str rfl (show _ = SV.d (.str []) from rfl) rfl ?_)
         refine um ?_
         apply gT
         · rfl
         · intro hg
           exact pm
         apply gT
         · rfl
         · intro hg; try simp only [hg, ct]; try simp only [hg, ct, Bt]
           exact pb
         refine uA ?_
         refine um ?_
         apply gT
         · rfl
         · intro hg
           exact pm
         apply gT
         · rfl
         · intro hg; try simp only [hg, ct]; try simp only [hg, ct, Bt]
           exact pb
         refine uA ?_
         refine ua ?_
         refine u_nil ?_
         refine WP.ret ?_
         refine ret_ok rfl ?_ (by omega) (fun t ht => (hk2 t (by omega)))
         -- ret 5
         have h1 := all_true (by omega) hin_i
         have h2 := all_true (by omega) hin_j
         refine congrArg D.bool ?_
         have e1 := encVs_length xs
         try simp only [beq_iff_eq, beq_eq_false_iff_ne] at hc7 hc16 hc25 hc28 hc31
         rw [Bool.eq_iff_iff]
         simp [mayV, maysV_all, h1, h2, kindOk, e1, hc7, hc16, hc25, hc28, hc31]
         try omega
        ·
         refine WP.seq fun K33 hK33 => ?_
         refine wr ?_
         refine ub ?_
         refine ua ?_
         refine u_nil ?_
         refine wc (fun hc35 => ?_) (fun hc35 => ?_) <;> try simp only [Q0, Q1, Q2, Q3, Q4, Q5, Q6, Q7, Q8, ge_iff_le, gt_iff_lt] at hc35
         ·
          refine WP.skip ?_
          refine hK33 _ ?_
          refine wc (fun hc36 => ?_) (fun hc36 => ?_) <;> try simp only [Q0, Q1, Q2, Q3, Q4, Q5, Q6, Q7, Q8, ge_iff_le, gt_iff_lt] at hc36
          ·
           refine wr ?_
           refine uf th27 th3 hb2 ?_
           refine ul th3 hb2 ?_
           refine ub ?_
           refine um ?_
           apply gT
           · rfl
           · intro hg
             exact pm
           apply gT
           · rfl
           · intro hg; try simp only [hg, ct]; try simp only [hg, ct, Bt]
             exact pb
           refine uA ?_
           refine um ?_
           apply gT
           · rfl
           · intro hg
             exact pm
           apply gT
           · rfl
           · intro hg; try simp only [hg, ct]; try simp only [hg, ct, Bt]
             exact pb
           refine uA ?_
           refine ua ?_
           refine u_nil ?_
           refine WP.ret ?_
           refine ret_ok rfl ?_ (by omega) (fun t ht => (hk2 t (by omega)))
           -- ret 6
           have h1 := all_true (by omega) hin_i
           have h2 := all_true (by omega) hin_j
           refine congrArg D.bool ?_
           have e1 := encVs_length xs
           try simp only [beq_iff_eq, beq_eq_false_iff_ne] at hc7 hc16 hc25 hc28 hc31 hc35 hc36
           rw [Bool.eq_iff_iff]
           simp [mayV, maysV_all, h1, h2, kindOk, e1, hc7, hc16, hc25, hc28, hc31, hc35, hc36]
           try omega
          ·
           refine wr ?_
           refine ub ?_
           refine ua ?_
           refine u_nil ?_
           refine wc (fun hc39 => ?_) (fun hc39 => ?_) <;> try simp only [Q0, Q1, Q2, Q3, Q4, Q5, Q6, Q7, Q8, ge_iff_le, gt_iff_lt] at hc39
           ·
            refine wr ?_
            refine uf th27 th3 hb2 ?_
            refine ul th3 hb2 ?_
            refine ub ?_
            refine um ?_
            apply gT
            · rfl
            · intro hg
              exact pf th27 th9 hb2
            apply gT
            · rfl
            · intro hg; try simp only [hg, ct]; try simp only [hg, ct, Bt]
              exact pl th9 hb2
            apply gT
            · rfl
            · intro hg; try simp only [hg, ct]; try simp only [hg, ct, Bt]
              refine o_bin_str rfl (show _ = SV.d (.str []) from rfl) rfl ⟨rfl, rfl, rfl⟩
            refine uA ?_
            refine um ?_
            apply gT
            · rfl
            · intro hg
              exact pm
            apply gT
            · rfl
            · intro hg; try simp only [hg, ct]; try simp only [hg, ct, Bt]
              exact pb
            refine uA ?_
            refine ua ?_
            refine u_nil ?_
            refine WP.ret ?_
            refine ret_ok rfl ?_ (by omega) (fun t ht => (hk2 t (by omega)))
            -- ret 7
            have h1 := all_true (by omega) hin_i
            have h2 := all_true (by omega) hin_j
            refine congrArg D.bool ?_
            have e1 := encVs_length xs
            try simp only [beq_iff_eq, beq_eq_false_iff_ne] at hc7 hc16 hc25 hc28 hc31 hc35 hc36 hc39
            rw [Bool.eq_iff_iff]
            simp [mayV, maysV_all, h1, h2, kindOk, e1, hc7, hc16, hc25, hc28, hc31, hc35, hc36, hc39]
            try omega
           ·
            refine wr ?_
            refine ub ?_
            refine ua ?_
            refine u_nil ?_
            refine wc (fun hc42 => ?_) (fun hc42 => ?_) <;> try simp only [Q0, Q1, Q2, Q3, Q4, Q5, Q6, Q7, Q8, ge_iff_le, gt_iff_lt] at hc42
            ·
             refine wr ?_
             refine uf th27 th3 hb2 ?_
             refine ul th3 hb2 ?_
             refine ub ?_
             refine um ?_
             apply gT
             · rfl
             · intro hg
               exact pf th27 th9 hb2
             apply gT
             · rfl
             · intro hg; try simp only [hg, ct]; try simp only [hg, ct, Bt]
               exact pl th9 hb2
             apply gT
             · rfl
             · intro hg; try simp only [hg, ct]; try simp only [hg, ct, Bt]
               refine o_bin_str rfl (show _ = SV.d (.str []) from rfl) rfl ⟨rfl, rfl, rfl⟩
             refine uA ?_
             refine um ?_
             apply gT
             · rfl
             · intro hg
               exact pm
             apply gT
             · rfl
             · intro hg
               exact pm
             apply gT
             · rfl
             · intro hg; try simp only [hg, ct]; try simp only [hg, ct, Bt]
               exact pb
             refine uA ?_
             refine um ?_
             apply gT
             · rfl
             · intro hg
               exact pf th27 th22 hb2
             apply gT
             · rfl
             · intro hg; try simp only [hg, ct]; try simp only [hg, ct, Bt]
               exact pl th22 hb2
             apply gT
             · rfl
             · intro hg; try simp only [hg, ct]; try simp only [hg, ct, Bt]
               refine o_pcall (s134 _) rfl ⟨rfl, rfl, rfl⟩
             apply gT
             · rfl
             · intro hg; try simp only [hg, ct]; try simp only [hg, ct, Bt]
               exact pN
             refine uA ?_
             refine ua ?_
             refine u_nil ?_
             refine WP.ret ?_
             refine ret_ok rfl ?_ (by omega) (fun t ht => (hk2 t (by omega)))
             -- ret 8
             have h1 := all_true (by omega) hin_i
             have h2 := all_true (by omega) hin_j
             refine congrArg D.bool ?_
             have e1 := encVs_length xs
             try simp only [beq_iff_eq, beq_eq_false_iff_ne] at hc7 hc16 hc25 hc28 hc31 hc35 hc36 hc39 hc42
             rw [Bool.eq_iff_iff]
             simp [mayV, maysV_all, h1, h2, kindOk, e1, hc7, hc16, hc25, hc28, hc31, hc35, hc36, hc39, hc42]
             try omega
            ·
             refine WP.skip ?_
             refine hK22 _ ?_
             refine wr ?_
             refine ua ?_
             refine u_nil ?_
             refine WP.ret ?_
             refine ret_ok rfl ?_ (by omega) (fun t ht => (hk2 t (by omega)))
             -- ret 9
             have h1 := all_true (by omega) hin_i
             have h2 := all_true (by omega) hin_j
             refine congrArg D.bool ?_
             have e1 := encVs_length xs
             try simp only [beq_iff_eq, beq_eq_false_iff_ne] at hc7 hc16 hc25 hc28 hc31 hc35 hc36 hc39 hc42
             rw [Bool.eq_iff_iff]
             simp [mayV, maysV_all, h1, h2, kindOk, e1, hc7, hc16, hc25, hc28, hc31, hc35, hc36, hc39, hc42]
             try omega
         ·
          refine WP.reg tabOk rfl ?_
          refine ub ?_
          refine ua ?_
          refine u_nil ?_
          refine hK33 _ ?_
          refine wc (fun hc45 => ?_) (fun hc45 => ?_) <;> try simp only [Q0, Q1, Q2, Q3, Q4, Q5, Q6, Q7, Q8, ge_iff_le, gt_iff_lt] at hc45
          ·
           refine wr ?_
           refine uf th27 th3 hb2 ?_
           refine ul th3 hb2 ?_
           refine ub ?_
           refine um ?_
           apply gT
           · rfl
           · intro hg
             exact pm
           apply gT
           · rfl
           · intro hg; try simp only [hg, ct]; try simp only [hg, ct, Bt]
             exact pb
           refine uA ?_
           refine um ?_
           apply gT
           · rfl
           · intro hg
             exact pm
           apply gT
           · rfl
           · intro hg; try simp only [hg, ct]; try simp only [hg, ct, Bt]
             exact pb
           refine uA ?_
           refine ua ?_
           refine u_nil ?_
           refine WP.ret ?_
           refine ret_ok rfl ?_ (by omega) (fun t ht => (hk2 t (by omega)))
           -- ret 10
           have h1 := all_true (by omega) hin_i
           have h2 := all_true (by omega) hin_j
           refine congrArg D.bool ?_
           have e1 := encVs_length xs
           try simp only [beq_iff_eq, beq_eq_false_iff_ne] at hc7 hc16 hc25 hc28 hc31 hc35 hc45
           rw [Bool.eq_iff_iff]
           simp [mayV, maysV_all, h1, h2, kindOk, e1, hc7, hc16, hc25, hc28, hc31, hc35, hc45]
           try omega
          ·
           refine wr ?_
           refine ub ?_
           refine ua ?_
           refine u_nil ?_
           refine wc (fun hc48 => ?_) (fun hc48 => ?_) <;> try simp only [Q0, Q1, Q2, Q3, Q4, Q5, Q6, Q7, Q8, ge_iff_le, gt_iff_lt] at hc48
           ·
            refine wr ?_
            refine uf th27 th3 hb2 ?_
            refine ul th3 hb2 ?_
            refine ub ?_
            refine um ?_
            apply gT
            · rfl
            · intro hg
              exact pf th27 th9 hb2
            apply gT
            · rfl
            · intro hg; try simp only [hg, ct]; try simp only [hg, ct, Bt]
              exact pl th9 hb2
            apply gT
            · rfl
            · intro hg; try simp only [hg, ct]; try simp only [hg, ct, Bt]
              refine o_bin_str rfl (show _ = SV.d (.str []) from rfl) rfl ⟨rfl, rfl, rfl⟩
            refine uA ?_
            refine um ?_
            apply gT
            · rfl
            · intro hg
              exact pm
            apply gT
            · rfl
            · intro hg; try simp only [hg, ct]; try simp only [hg, ct, Bt]
              exact pb
            refine uA ?_
            refine ua ?_
            refine u_nil ?_
            refine WP.ret ?_
            refine ret_ok rfl ?_ (by omega) (fun t ht => (hk2 t (by omega)))
            -- ret 11
            have h1 := all_true (by omega) hin_i
            have h2 := all_true (by omega) hin_j
            refine congrArg D.bool ?_
            have e1 := encVs_length xs
            try simp only [beq_iff_eq, beq_eq_false_iff_ne] at hc7 hc16 hc25 hc28 hc31 hc35 hc45 hc48
            rw [Bool.eq_iff_iff]
            simp [mayV, maysV_all, h1, h2, kindOk, e1, hc7, hc16, hc25, hc28, hc31, hc35, hc45, hc48]
            try omega
           ·
            refine wr ?_
            refine ub ?_
            refine ua ?_
            refine u_nil ?_
            refine wc (fun hc51 => ?_) (fun hc51 => ?_) <;> try simp only [Q0, Q1, Q2, Q3, Q4, Q5, Q6, Q7, Q8, ge_iff_le, gt_iff_lt] at hc51
            ·
             refine wr ?_
             refine uf th27 th3 hb2 ?_
             refine ul th3 hb2 ?_
             refine ub ?_
             refine um ?_
             apply gT
             · rfl
             · intro hg
               exact pf th27 th9 hb2
             apply gT
             · rfl
             · intro hg; try simp only [hg, ct]; try simp only [hg, ct, Bt]
               exact pl th9 hb2
             apply gT
             · rfl
             · intro hg; try simp only [hg, ct]; try simp only [hg, ct, Bt]
               refine o_bin_str rfl (show _ = SV.d (.str []) from rfl) rfl ⟨rfl, rfl, rfl⟩
             refine uA ?_
             refine um ?_
             apply gT
             · rfl
             · intro hg
               exact pm
             apply gT
             · rfl
             · intro hg
               exact pm
             apply gT
             · rfl
             · intro hg; try simp only [hg, ct]; try simp only [hg, ct, Bt]
               exact pb
             refine uA ?_
             refine um ?_
             apply gT
             · rfl
             · intro hg
               exact pf th27 th22 hb2
             apply gT
             · rfl
             · intro hg; try simp only [hg, ct]; try simp only [hg, ct, Bt]
               exact pl th22 hb2
             apply gT
             · rfl
             · intro hg; try simp only [hg, ct]; try simp only [hg, ct, Bt]
               refine o_pcall (s134 _) rfl ⟨rfl, rfl, rfl⟩
             apply gT
             · rfl
             · intro hg; try simp only [hg, ct]; try simp only [hg, ct, Bt]
               exact pN
             refine uA ?_
             refine ua ?_
             refine u_nil ?_
             refine WP.ret ?_
             refine ret_ok rfl ?_ (by omega) (fun t ht => (hk2 t (by omega)))
             -- ret 12
             have h1 := all_true (by omega) hin_i
             have h2 := all_true (by omega) hin_j
             refine congrArg D.bool ?_
             have e1 := encVs_length xs
             try simp only [beq_iff_eq, beq_eq_false_iff_ne] at hc7 hc16 hc25 hc28 hc31 hc35 hc45 hc48 hc51
             rw [Bool.eq_iff_iff]
             simp [mayV, maysV_all, h1, h2, kindOk, e1, hc7, hc16, hc25, hc28, hc31, hc35, hc45, hc48, hc51]
             try omega
            ·
             refine WP.skip ?_
             refine hK22 _ ?_
             refine wr ?_
             refine ua ?_
             refine u_nil ?_
             refine WP.ret ?_
             refine ret_ok rfl ?_ (by omega) (fun t ht => (hk2 t (by omega)))
             -- ret 13
             have h1 := all_true (by omega) hin_i
             have h2 := all_true (by omega) hin_j
             refine congrArg D.bool ?_
             have e1 := encVs_length xs
             try simp only [beq_iff_eq, beq_eq_false_iff_ne] at hc7 hc16 hc25 hc28 hc31 hc35 hc45 hc48 hc51
             rw [Bool.eq_iff_iff]
             simp [mayV, maysV_all, h1, h2, kindOk, e1, hc7, hc16, hc25, hc28, hc31, hc35, hc45, hc48, hc51]
             try omega
    ·
     simp
    ·
     refine Le.al ?_
     simp only [List.forall_mem_cons]
     exact ⟨rfl, rfl, by simp⟩
  ·
   simp
  ·
   refine Le.al ?_
   simp only [List.forall_mem_cons]
   exact ⟨rfl, rfl, by simp⟩
theorem s80 (v : Val) : PSpec Tryz.prog 80 [.d (encV v)] (.d (.bool (mayV v))) := s80A _ v (Nat.lt_succ_self _)

end Go.Proofs.YtpkcbdhjnnnkbaaGreat.Abs

set_option linter.unusedVariables false
set_option linter.unusedSimpArgs false
set_option maxRecDepth 10000
namespace Go.Proofs.YtpkcbdhjnnnkbaaGreat.Abs
open Go

theorem fn154 : FnOk Tryz.prog 154 19 [4] (bodyOf Tryz.f154) := ⟨Tryz.f154, Tryz.func154, by kernel_rfl, by decide, by kernel_rfl, by kernel_rfl⟩
theorem s154 {o : Nat → Option AO} {nk : Nat} (xs : List Str) (g : FuncId) (fs cs : List SV) (p : Str → Bool) (hclo : ∀ x ∈ xs, Spec Tryz.prog g (fs ++ [.d (D.str x)] ++ cs) o nk fun r' o' nk' => r' = .d (.bool (p x)) ∧ o' = o ∧ nk' = nk) : Spec Tryz.prog 154 [.d (.sl 1 (xs.map .str)), .clo g fs cs] o nk (fun r' o' nk' => r' = .d (.int .i64 (firstI p xs)) ∧ o' = o ∧ nk' = nk) := by
 refine Spec.bd fun hbd => ?_
 have hx : xs.length ≤ 9223372036854775807 := by simpa [encVs_length] using hbd.1.1
 refine Spec.pure (fun _ => trivial) rfl (Spec.of_body fn154 (by simp) ?_)
 refine wr ?_
 refine ua ?_
 refine u_nil ?_
 refine WP.seq fun K2 hK2 => ?_
 refine wr ?_
 refine um ?_
 refine un th22 ?_
 refine um ?_
 refine u_nil ?_
 refine WP.block ?_
 refine WP.loopL (ι := Nat) (fun i => ⟨al [(0, .d (.sl 1 (xs.map .str))), (1, .clo g fs cs), (7, .d (.int .i64 (xs.map D.str).length)), (8, .d (.int .i64 i))], o, nk⟩) (fun i => i ≤ xs.length ∧ ∀ (j : Nat) (hj : j < xs.length), j < i → p xs[j] = false) (fun i => xs.length - i) (fun i hA => ?_) 0 ?_ ?_
 ·
  obtain ⟨hle_i, hin_i⟩ := hA
  refine wr ?_
  refine ub ?_
  refine u_nil ?_
  refine WP.seq fun K5 hK5 => ?_
  refine wc (fun hc6 => ?_) (fun hc6 => ?_) <;> try simp only [Q0, Q1, Q2, Q3, Q4, Q5, Q6, Q7, Q8, ge_iff_le, gt_iff_lt] at hc6
  ·
   refine WP.skip ?_
   refine hK5 _ ?_
   refine WP.seq fun K7 hK7 => ?_
   refine WP.block ?_
   refine wr ?_
   refine um ?_
   refine ua ?_
   refine u_nil ?_
   refine wr ?_
   refine u_step (o_moveV (v := .clo _ _ _) rfl ?_)
   refine um ?_
   refine um ?_
   first | refine u_step (o_ia_map rfl rfl th22 rfl th9 rfl (by omega) ?_) | refine u_step (o_ia_vs rfl rfl th22 rfl th9 rfl (by omega) ?_)
   refine uL th9 ?_
   refine u_step (o_sclo rfl (hclo _ (List.getElem_mem (by omega))) rfl ?_)
   refine u_nil ?_
   refine wc (fun hc10 => ?_) (fun hc10 => ?_) <;> try simp only [Q0, Q1, Q2, Q3, Q4, Q5, Q6, Q7, Q8, ge_iff_le, gt_iff_lt] at hc10
   ·
    refine wr ?_
    refine um ?_
    refine ua ?_
    refine u_nil ?_
    refine WP.ret ?_
    refine ret_ok rfl ?_ (by omega) (fun _ _ => rfl)
    -- ret 1
    rw [firstI_at (by omega) hc10 hin_i]
   ·
    refine WP.skip ?_
    refine hK7 _ ?_
    refine WP.reg tabOk rfl ?_
    refine ub ?_
    refine um ?_
    refine u_nil ?_
    -- back
    refine ⟨i + 1, ⟨by omega, ?_⟩, by omega, ?_⟩
    · intro j hj h1
      by_cases h2 : j = i
      · subst h2; exact hc10
      · exact hin_i j hj (by omega)
    · refine Le.al ?_
      simp only [List.forall_mem_cons]
      exact ⟨rfl, rfl, rfl, cnt (by omega), by simp⟩
  ·
   refine WP.exit ?_
   refine hK2 _ ?_
   refine wr ?_
   refine ua ?_
   refine u_nil ?_
   refine WP.ret ?_
   refine ret_ok rfl ?_ (by omega) (fun _ _ => rfl)
   -- ret 2
   rw [firstI_none fun j hj => hin_i j hj (by omega)]
 ·
  simp
 ·
  refine Le.al ?_
  simp only [List.forall_mem_cons]
  exact ⟨rfl, rfl, rfl, rfl, by simp⟩

theorem fn112 : FnOk Tryz.prog 112 9 [4] (bodyOf Tryz.f112) := ⟨Tryz.f112, Tryz.func112, by kernel_rfl, by decide, by kernel_rfl, by kernel_rfl⟩
theorem s112 {o : Nat → Option AO} {nk : Nat} (xs : List Str) (g : FuncId) (fs cs : List SV) (p : Str → Bool) (hclo : ∀ x ∈ xs, Spec Tryz.prog g (fs ++ [.d (D.str x)] ++ cs) o nk fun r' o' nk' => r' = .d (.bool (p x)) ∧ o' = o ∧ nk' = nk) : Spec Tryz.prog 112 [.d (.sl 1 (xs.map .str)), .clo g fs cs] o nk (fun r' o' nk' => r' = .d (.bool (xs.any p)) ∧ o' = o ∧ nk' = nk) := by
 refine Spec.pure (fun _ => trivial) rfl (Spec.of_body fn112 (by simp) ?_)
 refine wr ?_
 refine ua ?_
 refine u_nil ?_
 refine wr ?_
 refine um ?_
 refine u_step (o_moveV (v := .clo _ _ _) rfl ?_)
 refine u_step (o_scall (s154 _ _ _ _ _ hclo) rfl ?_)
 refine ub ?_
 refine ua ?_
 refine u_nil ?_
 refine WP.ret ?_
 refine ret_ok rfl ?_ (by omega) (fun _ _ => rfl)
 -- ret 1
 rw [← firstI_nn]

theorem fn163 : FnOk Tryz.prog 163 19 [4] (bodyOf Tryz.f163) := ⟨Tryz.f163, Tryz.func163, by kernel_rfl, by decide, by kernel_rfl, by kernel_rfl⟩
theorem s163 {o : Nat → Option AO} {nk : Nat} (xs : List Val) (g : FuncId) (fs cs : List SV) (p : Val → Bool) (hclo : ∀ x ∈ xs, Spec Tryz.prog g (fs ++ [.d (encV x)] ++ cs) o nk fun r' o' nk' => r' = .d (.bool (p x)) ∧ o' = o ∧ nk' = nk) : Spec Tryz.prog 163 [.d (.sl 5 (encVs xs)), .clo g fs cs] o nk (fun r' o' nk' => r' = .d (.int .i64 (firstI p xs)) ∧ o' = o ∧ nk' = nk) := by
 refine Spec.bd fun hbd => ?_
 have hx : xs.length ≤ 9223372036854775807 := by simpa [encVs_length] using hbd.1.1
 refine Spec.pure (fun _ => trivial) rfl (Spec.of_body fn163 (by simp) ?_)
 refine wr ?_
 refine ua ?_
 refine u_nil ?_
 refine WP.seq fun K2 hK2 => ?_
 refine wr ?_
 refine um ?_
 refine un th25 ?_
 refine um ?_
 refine u_nil ?_
 refine WP.block ?_
 refine WP.loopL (ι := Nat) (fun i => ⟨al [(0, .d (.sl 5 (encVs xs))), (1, .clo g fs cs), (7, .d (.int .i64 (encVs xs).length)), (8, .d (.int .i64 i))], o, nk⟩) (fun i => i ≤ xs.length ∧ ∀ (j : Nat) (hj : j < xs.length), j < i → p xs[j] = false) (fun i => xs.length - i) (fun i hA => ?_) 0 ?_ ?_
 ·
  obtain ⟨hle_i, hin_i⟩ := hA
  refine wr ?_
  refine ub ?_
  refine u_nil ?_
  refine WP.seq fun K5 hK5 => ?_
  refine wc (fun hc6 => ?_) (fun hc6 => ?_) <;> try simp only [Q0, Q1, Q2, Q3, Q4, Q5, Q6, Q7, Q8, ge_iff_le, gt_iff_lt] at hc6
  ·
   refine WP.skip ?_
   refine hK5 _ ?_
   refine WP.seq fun K7 hK7 => ?_
   refine WP.block ?_
   refine wr ?_
   refine um ?_
   refine ua ?_
   refine u_nil ?_
   refine wr ?_
   refine u_step (o_moveV (v := .clo _ _ _) rfl ?_)
   refine um ?_
   refine um ?_
   first | refine u_step (o_ia_map rfl rfl th25 rfl th27 rfl (by omega) ?_) | refine u_step (o_ia_vs rfl rfl th25 rfl th27 rfl (by omega) ?_)
   refine uL th27 ?_
   refine u_step (o_sclo rfl (hclo _ (List.getElem_mem (by omega))) rfl ?_)
   refine u_nil ?_
   refine wc (fun hc10 => ?_) (fun hc10 => ?_) <;> try simp only [Q0, Q1, Q2, Q3, Q4, Q5, Q6, Q7, Q8, ge_iff_le, gt_iff_lt] at hc10
   ·
    refine wr ?_
    refine um ?_
    refine ua ?_
    refine u_nil ?_
    refine WP.ret ?_
    refine ret_ok rfl ?_ (by omega) (fun _ _ => rfl)
    -- ret 1
    rw [firstI_at (by omega) hc10 hin_i]
   ·
    refine WP.skip ?_
    refine hK7 _ ?_
    refine WP.reg tabOk rfl ?_
    refine ub ?_
    refine um ?_
    refine u_nil ?_
    -- back
    refine ⟨i + 1, ⟨by omega, ?_⟩, by omega, ?_⟩
    · intro j hj h1
      by_cases h2 : j = i
      · subst h2; exact hc10
      · exact hin_i j hj (by omega)
    · refine Le.al ?_
      simp only [List.forall_mem_cons]
      exact ⟨rfl, rfl, rfl, cnt (by omega), by simp⟩
  ·
   refine WP.exit ?_
   refine hK2 _ ?_
   refine wr ?_
   refine ua ?_
   refine u_nil ?_
   refine WP.ret ?_
   refine ret_ok rfl ?_ (by omega) (fun _ _ => rfl)
   -- ret 2
   rw [firstI_none fun j hj => hin_i j hj (by omega)]
 ·
  simp
 ·
  refine Le.al ?_
  simp only [List.forall_mem_cons]
  exact ⟨rfl, rfl, rfl, rfl, by simp⟩

theorem fn129 : FnOk Tryz.prog 129 9 [4] (bodyOf Tryz.f129) := ⟨Tryz.f129, Tryz.func129, by kernel_rfl, by decide, by kernel_rfl, by kernel_rfl⟩
theorem s129 {o : Nat → Option AO} {nk : Nat} (xs : List Val) (g : FuncId) (fs cs : List SV) (p : Val → Bool) (hclo : ∀ x ∈ xs, Spec Tryz.prog g (fs ++ [.d (encV x)] ++ cs) o nk fun r' o' nk' => r' = .d (.bool (p x)) ∧ o' = o ∧ nk' = nk) : Spec Tryz.prog 129 [.d (.sl 5 (encVs xs)), .clo g fs cs] o nk (fun r' o' nk' => r' = .d (.bool (xs.any p)) ∧ o' = o ∧ nk' = nk) := by
 refine Spec.pure (fun _ => trivial) rfl (Spec.of_body fn129 (by simp) ?_)
 refine wr ?_
 refine ua ?_
 refine u_nil ?_
 refine wr ?_
 refine um ?_
 refine u_step (o_moveV (v := .clo _ _ _) rfl ?_)
 refine u_step (o_scall (s163 _ _ _ _ _ hclo) rfl ?_)
 refine ub ?_
 refine ua ?_
 refine u_nil ?_
 refine WP.ret ?_
 refine ret_ok rfl ?_ (by omega) (fun _ _ => rfl)
 -- ret 1
 rw [← firstI_nn]

end Go.Proofs.YtpkcbdhjnnnkbaaGreat.Abs

set_option linter.unusedVariables false
set_option linter.unusedSimpArgs false
set_option maxRecDepth 10000
namespace Go.Proofs.YtpkcbdhjnnnkbaaGreat.Abs
open Go
/-- A function without a body that answers. -/
theorem PSpec.extern {P : Program} {f : FuncId} {fn : Func} {e : Array Value → Sem Value} {args : List SV} {x : D} (hf : P.funcs[f]? = some fn) (hname : (fn.name == "runtime.NumGoroutine") = false) (hb : fn.body.isNone = true) (hn : Extern.findNext fn = none) (he : Extern.find fn = some e)
    (h : ∀ (w : World) (S : Nat → Prop) (γ : Nat → Value) (o : Nat → Option AO) (vs : List Value), vs.length = args.length → (∀ (i : Nat) (c : SV) (v : Value), args[i]? = some c → vs[i]? = some v → SR w S γ o c v) → ∃ u, (e vs.toArray).run P w = .ok u w ∧ Rd w S x u) : PSpec P f args (.d x) := by
  intro o nk w S γ vs h1 h2 h3 h4
  obtain ⟨u, h5, h6⟩ := h w S γ o vs h2 h3
  unfold Does
  rw [run_callFunc_extern hf hname hb hn he, h5]
  exact ⟨.d x, o, nk, S, γ, ⟨rfl, rfl, rfl⟩, h1, Tr.refl _ _ _ _ _, .d _ _ h6, trivial⟩
theorem s208 (s : Str) (c : Int) : PSpec Tryz.prog 208 [.d (.str s), .d (.int .u8 c)] (.d (.int .i64 (Go.Lib.indexByte s c.toNat.toUInt8))) :=
  PSpec.extern Tryz.func208 (by kernel_rfl) (by kernel_rfl) (by kernel_rfl) (e := Extern.BytealgIndexByte.indexByte) (by kernel_rfl) fun w S γ o vs hl hr => by
    match vs, hl with
    | [u, v], _ =>
      cases hr 0 _ u rfl rfl with
      | d _ _ hu => cases hu with
        | str => cases hr 1 _ v rfl rfl with
          | d _ _ hv => cases hv with
            | int => exact ⟨_, Go.Lib.run_indexByteString _ _ _, .int _ _⟩
theorem s212 (s t : Str) : PSpec Tryz.prog 212 [.d (.str s), .d (.str t)] (.d (.int .i64 (Go.Lib.compareBytes s t))) :=
  PSpec.extern Tryz.func212 (by kernel_rfl) (by kernel_rfl) (by kernel_rfl) (e := Extern.BytealgCompare.compare) (by kernel_rfl) fun w S γ o vs hl hr => by
    match vs, hl with
    | [u, v], _ =>
      cases hr 0 _ u rfl rfl with
      | d _ _ hu => cases hu with
        | str => cases hr 1 _ v rfl rfl with
          | d _ _ hv => cases hv with
            | str => exact ⟨_, Go.Lib.run_compareString _ _ _, .int _ _⟩

theorem fn203 : FnOk Tryz.prog 203 8 [4] (bodyOf Tryz.f203) := ⟨Tryz.f203, Tryz.func203, by kernel_rfl, by decide, by kernel_rfl, by kernel_rfl⟩
theorem s203 (s : Str) (c : Int) : PSpec Tryz.prog 203 [.d (.str s), .d (.int .u8 c)] (.d (.int .i64 (Go.Lib.indexByte s c.toNat.toUInt8))) := by
 refine PSpec.of fn203 (by simp) fun o nk => ?_
 refine wr ?_
 refine ua ?_
 refine u_nil ?_
 refine wr ?_
 refine um ?_
 refine um ?_
 refine u_step (o_pcall (s208 _ _) rfl ?_)
 refine ua ?_
 refine u_nil ?_
 refine WP.ret ?_
 refine ret_ok rfl ?_ (by omega) (fun _ _ => rfl)
 -- ret 1
 rfl

theorem fn181 : FnOk Tryz.prog 181 18 [4] (bodyOf Tryz.f181) := ⟨Tryz.f181, Tryz.func181, by kernel_rfl, by decide, by kernel_rfl, by kernel_rfl⟩
theorem s181 (s p : Str) : PSpec Tryz.prog 181 [.d (.str s), .d (.str p)] (.d (.bool (p.isPrefixOf s))) := by
 refine PSpec.of fn181 (by simp) fun o nk => ?_
 refine wr ?_
 refine ua ?_
 refine u_nil ?_
 refine wr ?_
 refine um ?_
 refine u_step (o_len_str rfl th9 rfl ?_)
 refine um ?_
 refine u_step (o_len_str rfl th9 rfl ?_)
 refine ub ?_
 refine um ?_
 apply gT
 · rfl
 · intro hg
   exact pm
 apply gT
 · rfl
 · intro hg
   exact pm
 apply gT
 · rfl
 · intro hg; try simp only [hg, ct]; try simp only [hg, ct, Bt]
   refine o_len_str rfl th9 rfl ⟨rfl, rfl, rfl⟩
 apply gT
 · rfl
 · intro hg; try simp only [hg, ct]; try simp only [hg, ct, Bt]
   have hg2 := hg; try simp only [Q0, Q1, Q2, Q3, Q4, Q5, Q6, Q9, Qa, Qb, Qc, Qd] at hg2
   refine o_sl_str rfl th9 rfl (bnd_nat (by simp at hg; omega)) rfl ⟨rfl, rfl, rfl⟩
 apply gT
 · rfl
 · intro hg
   exact pm
 apply gT
 · rfl
 · intro hg; try simp only [hg, ct]; try simp only [hg, ct, Bt]
   exact ps
 refine uA ?_
 refine ua ?_
 refine u_nil ?_
 refine WP.ret ?_
 refine ret_ok rfl ?_ (by omega) (fun _ _ => rfl)
 -- ret 1
 refine congrArg D.bool ?_
 rw [Bool.eq_iff_iff]
 simp only [List.drop_zero, Bool.and_eq_true, decide_eq_true_eq, List.isPrefixOf_iff_prefix, List.prefix_iff_eq_take]
 constructor
 · rintro ⟨_, h⟩; exact h.symm
 · intro h; refine ⟨?_, h.symm⟩; have := congrArg List.length h; simp at this; omega

theorem fn152 : FnOk Tryz.prog 152 8 [4] (bodyOf Tryz.f152) := ⟨Tryz.f152, Tryz.func152, by kernel_rfl, by decide, by kernel_rfl, by kernel_rfl⟩
theorem s152 (s p : Str) : PSpec Tryz.prog 152 [.d (.str s), .d (.str p)] (.d (.bool (p.isPrefixOf s))) := by
 refine PSpec.of fn152 (by simp) fun o nk => ?_
 refine wr ?_
 refine ua ?_
 refine u_nil ?_
 refine wr ?_
 refine um ?_
 refine um ?_
 refine u_step (o_pcall (s181 _ _) rfl ?_)
 refine ua ?_
 refine u_nil ?_
 refine WP.ret ?_
 refine ret_ok rfl ?_ (by omega) (fun _ _ => rfl)
 -- ret 1
 rfl

end Go.Proofs.YtpkcbdhjnnnkbaaGreat.Abs

set_option linter.unusedVariables false
set_option linter.unusedSimpArgs false
set_option maxRecDepth 10000
namespace Go.Proofs.YtpkcbdhjnnnkbaaGreat.Abs
open Go
theorem take_snoc2 {ns : List Str} {i : Nat} (h : i < ns.length) : ns.take (i + 1) = ns.take i ++ [ns[i]] := List.take_succ_eq_append_getElem h
theorem indexByte_nn (s : Str) (c : UInt8) : decide (0 ≤ Go.Lib.indexByte s c) = decide (c ∈ s) := by
  induction s with
  | nil => simp [Go.Lib.indexByte]
  | cons x s ih =>
    rw [Bool.eq_iff_iff] at ih ⊢
    simp only [decide_eq_true_eq] at ih ⊢
    have h1 := Go.Lib.indexByte_ge s c
    simp only [Go.Lib.indexByte, List.mem_cons]
    by_cases hx : x = c
    · subst hx; simp
    · have hx' : ¬ c = x := fun e => hx e.symm
      simp only [beq_iff_eq, hx, if_false, hx', false_or]
      rw [← ih]
      split <;> omega

theorem fn199 : FnOk Tryz.prog 199 143 [4] (bodyOf Tryz.f199) := ⟨Tryz.f199, Tryz.func199, by kernel_rfl, by decide, by kernel_rfl, by kernel_rfl⟩
theorem s199 (s : Str) : PSpec Tryz.prog 199 [.d (.str s), .d (.str [46])] (.d (.int .i64 (Go.Lib.indexByte s 46))) := by
 refine PSpec.of fn199 (by simp) fun o nk => ?_
 refine wr ?_
 refine ua ?_
 refine u_nil ?_
 refine wr ?_
 refine um ?_
 refine u_step (o_len_str rfl th9 rfl ?_)
 refine ua ?_
 refine u_nil ?_
 refine WP.seq fun K3 hK3 => ?_
 refine WP.block ?_
 refine wr ?_
 refine um ?_
 refine ub ?_
 refine um ?_
 apply gF
 · rfl
 · intro hg
   exact pm
 apply gF
 · rfl
 · intro hg
   exact pm
 apply gF
 · rfl
 · intro hg; try simp only [hg, ct]; try simp only [hg, ct, Bt]
   exact ps
 refine uO ?_
 refine ua ?_
 refine u_nil ?_
 refine wc (fun hc5 => ?_) (fun hc5 => ?_) <;> try simp only [Q0, Q1, Q2, Q3, Q4, Q5, Q6, Q7, Q8, ge_iff_le, gt_iff_lt] at hc5
 ·
  refine wr ?_
  refine ua ?_
  refine u_nil ?_
  refine WP.ret ?_
  refine ret_ok rfl ?_ (by omega) (fun _ _ => rfl)
  -- ret 1
  have hs : [46] = s := by simpa using hc5
  subst hs
  rfl
 ·
  refine wr ?_
  refine um ?_
  refine ub ?_
  refine ua ?_
  refine u_nil ?_
  refine wc (fun hc8 => ?_) (fun hc8 => ?_) <;> try simp only [Q0, Q1, Q2, Q3, Q4, Q5, Q6, Q7, Q8, ge_iff_le, gt_iff_lt] at hc8
  ·
   refine wr ?_
   refine um ?_
   refine um ?_
   refine u_step (o_ix rfl rfl th9 rfl ?_ ?_ ?_)
   · decide
   · decide
   refine u_step (o_pcall (s203 _ _) rfl ?_)
   refine ua ?_
   refine u_nil ?_
   refine WP.ret ?_
   refine ret_ok rfl ?_ (by omega) (fun _ _ => rfl)
   -- ret 2
   rfl
  ·
   exact absurd hc8 (by decide)

theorem fn182 : FnOk Tryz.prog 182 8 [4] (bodyOf Tryz.f182) := ⟨Tryz.f182, Tryz.func182, by kernel_rfl, by decide, by kernel_rfl, by kernel_rfl⟩
theorem s182 (s : Str) : PSpec Tryz.prog 182 [.d (.str s), .d (.str [46])] (.d (.int .i64 (Go.Lib.indexByte s 46))) := by
 refine PSpec.of fn182 (by simp) fun o nk => ?_
 refine wr ?_
 refine ua ?_
 refine u_nil ?_
 refine wr ?_
 refine um ?_
 refine um ?_
 refine u_step (o_pcall (s199 _) rfl ?_)
 refine ua ?_
 refine u_nil ?_
 refine WP.ret ?_
 refine ret_ok rfl ?_ (by omega) (fun _ _ => rfl)
 -- ret 1
 rfl

theorem fn153 : FnOk Tryz.prog 153 9 [4] (bodyOf Tryz.f153) := ⟨Tryz.f153, Tryz.func153, by kernel_rfl, by decide, by kernel_rfl, by kernel_rfl⟩
theorem s153 (s : Str) : PSpec Tryz.prog 153 [.d (.str s), .d (.str [46])] (.d (.bool (decide ((46 : UInt8) ∈ s)))) := by
 refine PSpec.of fn153 (by simp) fun o nk => ?_
 refine wr ?_
 refine ua ?_
 refine u_nil ?_
 refine wr ?_
 refine um ?_
 refine um ?_
 refine u_step (o_pcall (s182 _) rfl ?_)
 refine ub ?_
 refine ua ?_
 refine u_nil ?_
 refine WP.ret ?_
 refine ret_ok rfl ?_ (by omega) (fun _ _ => rfl)
 -- ret 1
 rw [← indexByte_nn]

theorem fn111 : FnOk Tryz.prog 111 21 [2] (bodyOf Tryz.f111) := ⟨Tryz.f111, Tryz.func111, by kernel_rfl, by decide, by kernel_rfl, by kernel_rfl⟩
theorem s111 (x : Str) : PSpec Tryz.prog 111 [.d (.str x)] (.d (.bool (nameV x))) := by
 refine PSpec.of fn111 (by simp) fun o nk => ?_
 refine wr ?_
 refine ua ?_
 refine u_nil ?_
 refine wr ?_
 refine um ?_
 refine u_step (o_len_str rfl th9 rfl ?_)
 refine ub ?_
 refine um ?_
 apply gT
 · rfl
 · intro hg
   exact pm
 apply gT
 · rfl
 · intro hg; try simp only [hg, ct]; try simp only [hg, ct, Bt]
   refine o_len_str rfl th9 rfl ⟨rfl, rfl, rfl⟩
 apply gT
 · rfl
 · intro hg; try simp only [hg, ct]; try simp only [hg, ct, Bt]
   exact pb
 refine uA ?_
 refine um ?_
 apply gT
 · rfl
 · intro hg
   exact pm
 apply gT
 · rfl
 · intro hg; try simp only [hg, ct]; try simp only [hg, ct, Bt]
   refine o_pcall (s152 _ _) rfl ⟨rfl, rfl, rfl⟩
 apply gT
 · rfl
 · intro hg; try simp only [hg, ct]; try simp only [hg, ct, Bt]
   exact pN
 refine uA ?_
 refine um ?_
 apply gT
 · rfl
 · intro hg
   exact pm
 apply gT
 · rfl
 · intro hg; try simp only [hg, ct]; try simp only [hg, ct, Bt]
   refine o_pcall (s153 _) rfl ⟨rfl, rfl, rfl⟩
 apply gT
 · rfl
 · intro hg; try simp only [hg, ct]; try simp only [hg, ct, Bt]
   exact pN
 refine uA ?_
 refine ua ?_
 refine u_nil ?_
 refine WP.ret ?_
 refine ret_ok rfl ?_ (by omega) (fun _ _ => rfl)
 -- ret 1
 refine congrArg D.bool ?_
 rw [Bool.eq_iff_iff]
 simp only [nameV, Bool.and_eq_true, decide_eq_true_eq, Bool.not_eq_true', decide_eq_false_iff_not]
 have h1 : List.isPrefixOf [36] x = false ↔ x[0]? ≠ some 36 := by
   cases x with
   | nil => simp [List.isPrefixOf]
   | cons c x =>
     simp only [List.isPrefixOf, List.getElem?_cons_zero, Bool.and_true, ne_eq, Option.some.injEq]
     by_cases h : c = 36
     · subst h; simp
     · have h0 : ((36 : UInt8) == c) = false := by simpa using fun e => h e.symm
       simp [h0, h]
 rw [h1]
 constructor
 · rintro ⟨⟨⟨h2, h3⟩, h4⟩, h5⟩; exact ⟨by omega, by omega, h4, h5⟩
 · rintro ⟨h2, h3, h4, h5⟩; exact ⟨⟨⟨by omega, by omega⟩, h4⟩, h5⟩

theorem fn128 : FnOk Tryz.prog 128 24 [2] (bodyOf Tryz.f128) := ⟨Tryz.f128, Tryz.func128, by kernel_rfl, by decide, by kernel_rfl, by kernel_rfl⟩
theorem s128 (ns : List Str) : PSpec Tryz.prog 128 [.d (.sl 1 (ns.map .str))] (.d (.bool (namesV ns))) := by
 refine PSpec.bd fun hbd => ?_
 have hx : ns.length ≤ 9223372036854775807 := by simpa using hbd.1.1
 refine PSpec.of fn128 (by simp) fun o nk => ?_
 refine wr ?_
 refine ua ?_
 refine u_nil ?_
 refine wr ?_
 refine u_step (g_mm fun o3 hb3 hk3 => ?_)
 refine u_step (o_assignV (v := .raw _) rfl ?_)
 refine u_nil ?_
 refine WP.seq fun K4 hK4 => ?_
 refine wr ?_
 refine um ?_
 refine un th22 ?_
 refine um ?_
 refine u_nil ?_
 refine WP.block ?_
 refine WP.loopL (ι := Nat × (Nat → Option AO)) (fun ⟨i, o2⟩ => ⟨al [(3, .raw nk), (7, .d (.sl 1 (ns.map .str))), (8, .d (.int .i64 (ns.map D.str).length)), (9, .d (.int .i64 i))], o2, (nk + 1)⟩) (fun ⟨i, o2⟩ => i ≤ ns.length ∧ o2 nk = some (.raw (setOb (ns.take i))) ∧ (∀ t, t < nk → o2 t = o t) ∧ (ns.take i).all nameV = true ∧ (ns.take i).Nodup) (fun ⟨i, o2⟩ => ns.length - i) (fun ⟨i, o2⟩ hA => ?_) ⟨0, o3⟩ ?_ ?_
 ·
  obtain ⟨hle, hob, hfr, hal, hnd⟩ := hA
  refine wr ?_
  refine ub ?_
  refine u_nil ?_
  refine WP.seq fun K7 hK7 => ?_
  refine wc (fun hc8 => ?_) (fun hc8 => ?_) <;> try simp only [Q0, Q1, Q2, Q3, Q4, Q5, Q6, Q7, Q8, ge_iff_le, gt_iff_lt] at hc8
  ·
   refine WP.skip ?_
   refine hK7 _ ?_
   refine WP.seq fun K9 hK9 => ?_
   refine WP.block ?_
   refine wr ?_
   first | refine u_step (o_ia_map rfl rfl th22 rfl th9 rfl (by omega) ?_) | refine u_step (o_ia_vs rfl rfl th22 rfl th9 rfl (by omega) ?_)
   refine uL th9 ?_
   refine ua ?_
   refine u_nil ?_
   refine WP.seq fun K11 hK11 => ?_
   refine wr ?_
   refine um ?_
   refine u_step (o_pcall (s111 _) rfl ?_)
   refine uN ?_
   refine um ?_
   apply gF
   · rfl
   · intro hg
     refine o_moveV (v := .raw _) rfl ⟨rfl, rfl, rfl⟩
   apply gF
   · rfl
   · intro hg
     exact pm
   apply gF
   · rfl
   · intro hg; try simp only [hg, ct]; try simp only [hg, ct, Bt]
     refine o_lookup rfl rfl th138 rfl th9 rfl th4 rfl rfl hob ⟨rfl, rfl, rfl⟩
   refine uO ?_
   refine u_nil ?_
   refine wc (fun hc13 => ?_) (fun hc13 => ?_) <;> try simp only [Q0, Q1, Q2, Q3, Q4, Q5, Q6, Q7, Q8, ge_iff_le, gt_iff_lt] at hc13
   ·
    refine wr ?_
    refine ua ?_
    refine u_nil ?_
    refine WP.ret ?_
    refine ret_ok rfl ?_ (by omega) (fun t ht => (hfr t (by omega)))
    -- ret 1
    rw [names_bad (by omega) hc13]
   ·
    refine WP.skip ?_
    refine hK11 _ ?_
    refine WP.reg tabOk rfl ?_
    refine u_step (o_moveV (v := .raw _) rfl ?_)
    refine um ?_
    refine u_step0 (g_mu rfl rfl rfl th138 rfl th9 rfl hob (by simpa using (Bool.or_eq_false_iff.1 hc13).2) fun o15 hb15 hk15 => ?_)
    refine u_nil ?_
    refine hK9 _ ?_
    refine WP.reg tabOk rfl ?_
    refine ub ?_
    refine um ?_
    refine u_nil ?_
    -- back
    have hc := Bool.or_eq_false_iff.1 hc13
    refine ⟨⟨i + 1, o15⟩, ⟨by omega, ?_, (fun t ht => (hk15 t (by omega)).trans ((hfr t (by omega)))), ?_, ?_⟩, by simp only; omega, ?_⟩
    · rw [take_snoc2 (by omega)]; exact hb15
    · rw [all_snoc (by omega), hal]; simpa using hc.1
    · exact nodup_snoc (by omega) hnd (by simpa using hc.2)
    · refine Le.al ?_
      simp only [List.forall_mem_cons]
      exact ⟨rfl, rfl, rfl, cnt (by omega), by simp⟩
  ·
   refine WP.exit ?_
   refine hK4 _ ?_
   refine wr ?_
   refine ua ?_
   refine u_nil ?_
   refine WP.ret ?_
   refine ret_ok rfl ?_ (by omega) (fun t ht => (hfr t (by omega)))
   -- ret 2
   rw [names_good (by rwa [List.take_of_length_le (by omega)] at hal) (by rwa [List.take_of_length_le (by omega)] at hnd)]
 ·
  refine ⟨by simp, hb3, (fun t ht => (hk3 t (by omega))), by simp, by simp⟩
 ·
  refine Le.al ?_
  simp only [List.forall_mem_cons]
  exact ⟨rfl, rfl, rfl, rfl, by simp⟩

end Go.Proofs.YtpkcbdhjnnnkbaaGreat.Abs

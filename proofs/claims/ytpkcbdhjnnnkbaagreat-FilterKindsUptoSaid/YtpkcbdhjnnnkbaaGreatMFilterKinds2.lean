/- Part 2 of the proof that FilterKinds: called with any kinds and any entry that hold together at most 1048576 values and letters, the law answers true, and both read afterwards as they read before. -/
import Derived.Test.YtpkcbdhjnnnkbaaGreatMFilterKinds1
import Derived.Test.YtpkcbdhjnnnkbaaGreatProg
import Derived.KernelRfl
import Derived.Laws.BitsLemmas
import Derived.Laws.Externs
import Derived.Lib.Bytealg
/- The table of types: written by tab.py. -/
set_option maxRecDepth 100000
namespace Go.Proofs.YtpkcbdhjnnnkbaaGreat.Abs
open Go

def tl : List (Nat × TI) := [
  (2, { k := .int .i64, sz := 1, bys := 8, z := some [.int .i64 0] }),
  (3, { k := .int .i64, sz := 1, bys := 8, z := some [.int .i64 0] }),
  (4, { k := .bool, sz := 1, bys := 1, z := some [.bool false] }),
  (5, { k := .int .u8, sz := 1, bys := 1, z := some [.int .u8 0] }),
  (6, { k := .int .u8, sz := 1, bys := 1, z := some [.int .u8 0] }),
  (7, { k := .struct [(0, 2), (1, 3), (2, 4), (3, 6)], sz := 4, bys := 24, z := some [.int .i64 0, .int .i64 0, .bool false, .int .u8 0] }),
  (8, { k := .struct [(0, 2), (1, 3), (2, 4), (3, 6)], sz := 4, bys := 24, z := some [.int .i64 0, .int .i64 0, .bool false, .int .u8 0] }),
  (9, { k := .str, sz := 1, bys := 16, z := some [.str []] }),
  (10, { k := .str, sz := 1, bys := 16, z := some [.str []] }),
  (11, { k := .str, sz := 1, bys := 16, z := some [.str []] }),
  (12, { k := .int .u64, sz := 1, bys := 8, z := some [.int .u64 0] }),
  (13, { k := .struct [(0, 9), (1, 12)], sz := 2, bys := 24, z := some [.str [], .int .u64 0] }),
  (14, { k := .struct [(0, 9), (1, 12)], sz := 2, bys := 24, z := some [.str [], .int .u64 0] }),
  (15, { k := .ptr 174, sz := 1, bys := 8, z := some [.nilp] }),
  (16, { k := .ptr 177, sz := 1, bys := 8, z := some [.nilp] }),
  (17, { k := .ptr 185, sz := 1, bys := 8, z := some [.nilp] }),
  (18, { k := .struct [(0, 17)], sz := 1, bys := 8, z := some [.nilp] }),
  (19, { k := .struct [(0, 17)], sz := 1, bys := 8, z := some [.nilp] }),
  (21, { k := .int .i32, sz := 1, bys := 4, z := some [.int .i32 0] }),
  (22, { k := .slice 9, sz := 1, bys := 24, z := some [.nil] }),
  (23, { k := .struct [(0, 9), (1, 22), (2, 3)], sz := 3, bys := 48, z := some [.str [], .nil, .int .i64 0] }),
  (24, { k := .struct [(0, 9), (1, 22), (2, 3)], sz := 3, bys := 48, z := some [.str [], .nil, .int .i64 0] }),
  (25, { k := .slice 27, sz := 1, bys := 24, z := some [.nil] }),
  (26, { k := .struct [(0, 3), (1, 3), (2, 9), (3, 25), (4, 22)], sz := 5, bys := 80, z := some [.int .i64 0, .int .i64 0, .str [], .nil, .nil] }),
  (27, { k := .struct [(0, 3), (1, 3), (2, 9), (3, 25), (4, 22)], sz := 5, bys := 80, z := some [.int .i64 0, .int .i64 0, .str [], .nil, .nil] }),
  (28, { k := .slice 83, sz := 1, bys := 24, z := some [.nil] }),
  (29, { k := .struct [(0, 3), (1, 3), (2, 9), (3, 9), (4, 27), (9, 27), (14, 28), (15, 3), (16, 3)], sz := 17, bys := 248, z := some [.int .i64 0, .int .i64 0, .str [], .str [], .int .i64 0, .int .i64 0, .str [], .nil, .nil, .int .i64 0, .int .i64 0, .str [], .nil, .nil, .nil, .int .i64 0, .int .i64 0] }),
  (30, { k := .struct [(0, 3), (1, 3), (2, 9), (3, 9), (4, 27), (9, 27), (14, 28), (15, 3), (16, 3)], sz := 17, bys := 248, z := some [.int .i64 0, .int .i64 0, .str [], .str [], .int .i64 0, .int .i64 0, .str [], .nil, .nil, .int .i64 0, .int .i64 0, .str [], .nil, .nil, .nil, .int .i64 0, .int .i64 0] }),
  (34, { k := .slice 30, sz := 1, bys := 24, z := some [.nil] }),
  (37, { k := .slice 3, sz := 1, bys := 24, z := some [.nil] }),
  (44, { k := .int .i64, sz := 1, bys := 8, z := some [.int .i64 0] }),
  (52, { k := .slice 5, sz := 1, bys := 24, z := some [.nil] }),
  (55, { k := .ptr 102, sz := 1, bys := 8, z := some [.nilp] }),
  (61, { k := .ptr 63, sz := 1, bys := 8, z := some [.nilp] }),
  (62, { k := .struct [(0, 52), (1, 4)], sz := 2, bys := 32, z := some [.nil, .bool false] }),
  (63, { k := .struct [(0, 52), (1, 4)], sz := 2, bys := 32, z := some [.nil, .bool false] }),
  (82, { k := .struct [(0, 3), (1, 22), (2, 27), (7, 3)], sz := 8, bys := 120, z := some [.int .i64 0, .nil, .int .i64 0, .int .i64 0, .str [], .nil, .nil, .int .i64 0] }),
  (83, { k := .struct [(0, 3), (1, 22), (2, 27), (7, 3)], sz := 8, bys := 120, z := some [.int .i64 0, .nil, .int .i64 0, .int .i64 0, .str [], .nil, .nil, .int .i64 0] }),
  (101, { k := .struct [(0, 52), (1, 4)], sz := 2, bys := 32, z := some [.nil, .bool false] }),
  (102, { k := .struct [(0, 52), (1, 4)], sz := 2, bys := 32, z := some [.nil, .bool false] }),
  (126, { k := .int .u64, sz := 1, bys := 8, z := some [.int .u64 0] }),
  (138, { k := .map 9 4, sz := 1, bys := 8, z := none }),
  (143, { k := .int .u64, sz := 1, bys := 8, z := some [.int .u64 0] }),
  (148, { k := .arr 256 4, sz := 256, bys := 256, z := some (List.replicate 256 (.bool false)) }),
  (149, { k := .arr 256 4, sz := 256, bys := 256, z := some (List.replicate 256 (.bool false)) }),
  (167, { k := .ptr 149, sz := 1, bys := 8, z := some [.nilp] }),
  (169, { k := .int .u32, sz := 1, bys := 4, z := some [.int .u32 0] }),
  (173, { k := .struct [(0, 17), (1, 17), (2, 17), (3, 9)], sz := 4, bys := 40, z := some [.nilp, .nilp, .nilp, .str []] }),
  (174, { k := .struct [(0, 17), (1, 17), (2, 17), (3, 9)], sz := 4, bys := 40, z := some [.nilp, .nilp, .nilp, .str []] }),
  (175, { k := .arr 0 16, sz := 0, bys := 0, z := some (List.replicate 0 (.nilp)) }),
  (176, { k := .struct [(0, 175)], sz := 0, bys := 0, z := some [] }),
  (177, { k := .struct [(0, 175)], sz := 0, bys := 0, z := some [] }),
  (178, { k := .int .u8, sz := 1, bys := 1, z := some [.int .u8 0] }),
  (179, { k := .int .u8, sz := 1, bys := 1, z := some [.int .u8 0] }),
  (181, { k := .ptr 5, sz := 1, bys := 8, z := some [.nilp] }),
  (182, { k := .int .i32, sz := 1, bys := 4, z := some [.int .i32 0] }),
  (183, { k := .int .i32, sz := 1, bys := 4, z := some [.int .i32 0] }),
  (184, { k := .struct [(0, 12), (1, 12), (2, 169), (3, 178), (4, 5), (5, 5), (6, 179), (7, 180), (8, 181), (9, 182), (10, 183)], sz := 11, bys := 48, z := none }),
  (185, { k := .struct [(0, 12), (1, 12), (2, 169), (3, 178), (4, 5), (5, 5), (6, 179), (7, 180), (8, 181), (9, 182), (10, 183)], sz := 11, bys := 48, z := none })]
def Θ : Tab := fun t => (tl.find? fun p => Nat.beq p.1 t).map (·.2)
theorem th2 : Θ 2 = some { k := .int .i64, sz := 1, bys := 8, z := some [.int .i64 0] } := rfl
theorem th3 : Θ 3 = some { k := .int .i64, sz := 1, bys := 8, z := some [.int .i64 0] } := rfl
theorem th4 : Θ 4 = some { k := .bool, sz := 1, bys := 1, z := some [.bool false] } := rfl
theorem th5 : Θ 5 = some { k := .int .u8, sz := 1, bys := 1, z := some [.int .u8 0] } := rfl
theorem th6 : Θ 6 = some { k := .int .u8, sz := 1, bys := 1, z := some [.int .u8 0] } := rfl
theorem th7 : Θ 7 = some { k := .struct [(0, 2), (1, 3), (2, 4), (3, 6)], sz := 4, bys := 24, z := some [.int .i64 0, .int .i64 0, .bool false, .int .u8 0] } := rfl
theorem th8 : Θ 8 = some { k := .struct [(0, 2), (1, 3), (2, 4), (3, 6)], sz := 4, bys := 24, z := some [.int .i64 0, .int .i64 0, .bool false, .int .u8 0] } := rfl
theorem th9 : Θ 9 = some { k := .str, sz := 1, bys := 16, z := some [.str []] } := rfl
theorem th10 : Θ 10 = some { k := .str, sz := 1, bys := 16, z := some [.str []] } := rfl
theorem th11 : Θ 11 = some { k := .str, sz := 1, bys := 16, z := some [.str []] } := rfl
theorem th12 : Θ 12 = some { k := .int .u64, sz := 1, bys := 8, z := some [.int .u64 0] } := rfl
theorem th13 : Θ 13 = some { k := .struct [(0, 9), (1, 12)], sz := 2, bys := 24, z := some [.str [], .int .u64 0] } := rfl
theorem th14 : Θ 14 = some { k := .struct [(0, 9), (1, 12)], sz := 2, bys := 24, z := some [.str [], .int .u64 0] } := rfl
theorem th15 : Θ 15 = some { k := .ptr 174, sz := 1, bys := 8, z := some [.nilp] } := rfl
theorem th16 : Θ 16 = some { k := .ptr 177, sz := 1, bys := 8, z := some [.nilp] } := rfl
theorem th17 : Θ 17 = some { k := .ptr 185, sz := 1, bys := 8, z := some [.nilp] } := rfl
theorem th18 : Θ 18 = some { k := .struct [(0, 17)], sz := 1, bys := 8, z := some [.nilp] } := rfl
theorem th19 : Θ 19 = some { k := .struct [(0, 17)], sz := 1, bys := 8, z := some [.nilp] } := rfl
theorem th21 : Θ 21 = some { k := .int .i32, sz := 1, bys := 4, z := some [.int .i32 0] } := rfl
theorem th22 : Θ 22 = some { k := .slice 9, sz := 1, bys := 24, z := some [.nil] } := rfl
theorem th23 : Θ 23 = some { k := .struct [(0, 9), (1, 22), (2, 3)], sz := 3, bys := 48, z := some [.str [], .nil, .int .i64 0] } := rfl
theorem th24 : Θ 24 = some { k := .struct [(0, 9), (1, 22), (2, 3)], sz := 3, bys := 48, z := some [.str [], .nil, .int .i64 0] } := rfl
theorem th25 : Θ 25 = some { k := .slice 27, sz := 1, bys := 24, z := some [.nil] } := rfl
theorem th26 : Θ 26 = some { k := .struct [(0, 3), (1, 3), (2, 9), (3, 25), (4, 22)], sz := 5, bys := 80, z := some [.int .i64 0, .int .i64 0, .str [], .nil, .nil] } := rfl
theorem th27 : Θ 27 = some { k := .struct [(0, 3), (1, 3), (2, 9), (3, 25), (4, 22)], sz := 5, bys := 80, z := some [.int .i64 0, .int .i64 0, .str [], .nil, .nil] } := rfl
theorem th28 : Θ 28 = some { k := .slice 83, sz := 1, bys := 24, z := some [.nil] } := rfl
theorem th29 : Θ 29 = some { k := .struct [(0, 3), (1, 3), (2, 9), (3, 9), (4, 27), (9, 27), (14, 28), (15, 3), (16, 3)], sz := 17, bys := 248, z := some [.int .i64 0, .int .i64 0, .str [], .str [], .int .i64 0, .int .i64 0, .str [], .nil, .nil, .int .i64 0, .int .i64 0, .str [], .nil, .nil, .nil, .int .i64 0, .int .i64 0] } := rfl
theorem th30 : Θ 30 = some { k := .struct [(0, 3), (1, 3), (2, 9), (3, 9), (4, 27), (9, 27), (14, 28), (15, 3), (16, 3)], sz := 17, bys := 248, z := some [.int .i64 0, .int .i64 0, .str [], .str [], .int .i64 0, .int .i64 0, .str [], .nil, .nil, .int .i64 0, .int .i64 0, .str [], .nil, .nil, .nil, .int .i64 0, .int .i64 0] } := rfl
theorem th34 : Θ 34 = some { k := .slice 30, sz := 1, bys := 24, z := some [.nil] } := rfl
theorem th37 : Θ 37 = some { k := .slice 3, sz := 1, bys := 24, z := some [.nil] } := rfl
theorem th44 : Θ 44 = some { k := .int .i64, sz := 1, bys := 8, z := some [.int .i64 0] } := rfl
theorem th52 : Θ 52 = some { k := .slice 5, sz := 1, bys := 24, z := some [.nil] } := rfl
theorem th55 : Θ 55 = some { k := .ptr 102, sz := 1, bys := 8, z := some [.nilp] } := rfl
theorem th61 : Θ 61 = some { k := .ptr 63, sz := 1, bys := 8, z := some [.nilp] } := rfl
theorem th62 : Θ 62 = some { k := .struct [(0, 52), (1, 4)], sz := 2, bys := 32, z := some [.nil, .bool false] } := rfl
theorem th63 : Θ 63 = some { k := .struct [(0, 52), (1, 4)], sz := 2, bys := 32, z := some [.nil, .bool false] } := rfl
theorem th82 : Θ 82 = some { k := .struct [(0, 3), (1, 22), (2, 27), (7, 3)], sz := 8, bys := 120, z := some [.int .i64 0, .nil, .int .i64 0, .int .i64 0, .str [], .nil, .nil, .int .i64 0] } := rfl
theorem th83 : Θ 83 = some { k := .struct [(0, 3), (1, 22), (2, 27), (7, 3)], sz := 8, bys := 120, z := some [.int .i64 0, .nil, .int .i64 0, .int .i64 0, .str [], .nil, .nil, .int .i64 0] } := rfl
theorem th101 : Θ 101 = some { k := .struct [(0, 52), (1, 4)], sz := 2, bys := 32, z := some [.nil, .bool false] } := rfl
theorem th102 : Θ 102 = some { k := .struct [(0, 52), (1, 4)], sz := 2, bys := 32, z := some [.nil, .bool false] } := rfl
theorem th126 : Θ 126 = some { k := .int .u64, sz := 1, bys := 8, z := some [.int .u64 0] } := rfl
theorem th138 : Θ 138 = some { k := .map 9 4, sz := 1, bys := 8, z := none } := rfl
theorem th143 : Θ 143 = some { k := .int .u64, sz := 1, bys := 8, z := some [.int .u64 0] } := rfl
theorem th148 : Θ 148 = some { k := .arr 256 4, sz := 256, bys := 256, z := some (List.replicate 256 (.bool false)) } := rfl
theorem th149 : Θ 149 = some { k := .arr 256 4, sz := 256, bys := 256, z := some (List.replicate 256 (.bool false)) } := rfl
theorem th167 : Θ 167 = some { k := .ptr 149, sz := 1, bys := 8, z := some [.nilp] } := rfl
theorem th169 : Θ 169 = some { k := .int .u32, sz := 1, bys := 4, z := some [.int .u32 0] } := rfl
theorem th173 : Θ 173 = some { k := .struct [(0, 17), (1, 17), (2, 17), (3, 9)], sz := 4, bys := 40, z := some [.nilp, .nilp, .nilp, .str []] } := rfl
theorem th174 : Θ 174 = some { k := .struct [(0, 17), (1, 17), (2, 17), (3, 9)], sz := 4, bys := 40, z := some [.nilp, .nilp, .nilp, .str []] } := rfl
theorem th175 : Θ 175 = some { k := .arr 0 16, sz := 0, bys := 0, z := some (List.replicate 0 (.nilp)) } := rfl
theorem th176 : Θ 176 = some { k := .struct [(0, 175)], sz := 0, bys := 0, z := some [] } := rfl
theorem th177 : Θ 177 = some { k := .struct [(0, 175)], sz := 0, bys := 0, z := some [] } := rfl
theorem th178 : Θ 178 = some { k := .int .u8, sz := 1, bys := 1, z := some [.int .u8 0] } := rfl
theorem th179 : Θ 179 = some { k := .int .u8, sz := 1, bys := 1, z := some [.int .u8 0] } := rfl
theorem th181 : Θ 181 = some { k := .ptr 5, sz := 1, bys := 8, z := some [.nilp] } := rfl
theorem th182 : Θ 182 = some { k := .int .i32, sz := 1, bys := 4, z := some [.int .i32 0] } := rfl
theorem th183 : Θ 183 = some { k := .int .i32, sz := 1, bys := 4, z := some [.int .i32 0] } := rfl
theorem th184 : Θ 184 = some { k := .struct [(0, 12), (1, 12), (2, 169), (3, 178), (4, 5), (5, 5), (6, 179), (7, 180), (8, 181), (9, 182), (10, 183)], sz := 11, bys := 48, z := none } := rfl
theorem th185 : Θ 185 = some { k := .struct [(0, 12), (1, 12), (2, 169), (3, 178), (4, 5), (5, 5), (6, 179), (7, 180), (8, 181), (9, 182), (10, 183)], sz := 11, bys := 48, z := none } := rfl

theorem tab_of {P : Program} : ∀ (l : List (Nat × TI)), (∀ p ∈ l, TOk P p.1 p.2) → TabOk P (fun t => (l.find? fun p => Nat.beq p.1 t).map (·.2)) := by
  intro l h t i hi
  obtain ⟨p, hp, rfl⟩ := Option.map_eq_some_iff.1 hi
  have h1 := List.mem_of_find?_eq_some hp
  have h2 := List.find?_some hp
  have h3 : p.1 = t := Nat.eq_of_beq_eq_true h2
  rw [← h3]
  exact h p h1
theorem tok2 : TOk Tryz.prog 2 { k := .int .i64, sz := 1, bys := 8, z := some [.int .i64 0] } := ⟨by kernel_rfl, by kernel_rfl, fun l h => by injection h with h; subst h; exact ⟨by kernel_rfl, by kernel_rfl, by decide⟩⟩
theorem tok3 : TOk Tryz.prog 3 { k := .int .i64, sz := 1, bys := 8, z := some [.int .i64 0] } := ⟨by kernel_rfl, by kernel_rfl, fun l h => by injection h with h; subst h; exact ⟨by kernel_rfl, by kernel_rfl, by decide⟩⟩
theorem tok4 : TOk Tryz.prog 4 { k := .bool, sz := 1, bys := 1, z := some [.bool false] } := ⟨by kernel_rfl, by kernel_rfl, fun l h => by injection h with h; subst h; exact ⟨by kernel_rfl, by kernel_rfl, by decide⟩⟩
theorem tok5 : TOk Tryz.prog 5 { k := .int .u8, sz := 1, bys := 1, z := some [.int .u8 0] } := ⟨by kernel_rfl, by kernel_rfl, fun l h => by injection h with h; subst h; exact ⟨by kernel_rfl, by kernel_rfl, by decide⟩⟩
theorem tok6 : TOk Tryz.prog 6 { k := .int .u8, sz := 1, bys := 1, z := some [.int .u8 0] } := ⟨by kernel_rfl, by kernel_rfl, fun l h => by injection h with h; subst h; exact ⟨by kernel_rfl, by kernel_rfl, by decide⟩⟩
theorem tok7 : TOk Tryz.prog 7 { k := .struct [(0, 2), (1, 3), (2, 4), (3, 6)], sz := 4, bys := 24, z := some [.int .i64 0, .int .i64 0, .bool false, .int .u8 0] } := ⟨by kernel_rfl, by kernel_rfl, fun l h => by injection h with h; subst h; exact ⟨by kernel_rfl, by kernel_rfl, by decide⟩⟩
theorem tok8 : TOk Tryz.prog 8 { k := .struct [(0, 2), (1, 3), (2, 4), (3, 6)], sz := 4, bys := 24, z := some [.int .i64 0, .int .i64 0, .bool false, .int .u8 0] } := ⟨by kernel_rfl, by kernel_rfl, fun l h => by injection h with h; subst h; exact ⟨by kernel_rfl, by kernel_rfl, by decide⟩⟩
theorem tok9 : TOk Tryz.prog 9 { k := .str, sz := 1, bys := 16, z := some [.str []] } := ⟨by kernel_rfl, by kernel_rfl, fun l h => by injection h with h; subst h; exact ⟨by kernel_rfl, by kernel_rfl, by decide⟩⟩
theorem tok10 : TOk Tryz.prog 10 { k := .str, sz := 1, bys := 16, z := some [.str []] } := ⟨by kernel_rfl, by kernel_rfl, fun l h => by injection h with h; subst h; exact ⟨by kernel_rfl, by kernel_rfl, by decide⟩⟩
theorem tok11 : TOk Tryz.prog 11 { k := .str, sz := 1, bys := 16, z := some [.str []] } := ⟨by kernel_rfl, by kernel_rfl, fun l h => by injection h with h; subst h; exact ⟨by kernel_rfl, by kernel_rfl, by decide⟩⟩
theorem tok12 : TOk Tryz.prog 12 { k := .int .u64, sz := 1, bys := 8, z := some [.int .u64 0] } := ⟨by kernel_rfl, by kernel_rfl, fun l h => by injection h with h; subst h; exact ⟨by kernel_rfl, by kernel_rfl, by decide⟩⟩
theorem tok13 : TOk Tryz.prog 13 { k := .struct [(0, 9), (1, 12)], sz := 2, bys := 24, z := some [.str [], .int .u64 0] } := ⟨by kernel_rfl, by kernel_rfl, fun l h => by injection h with h; subst h; exact ⟨by kernel_rfl, by kernel_rfl, by decide⟩⟩
theorem tok14 : TOk Tryz.prog 14 { k := .struct [(0, 9), (1, 12)], sz := 2, bys := 24, z := some [.str [], .int .u64 0] } := ⟨by kernel_rfl, by kernel_rfl, fun l h => by injection h with h; subst h; exact ⟨by kernel_rfl, by kernel_rfl, by decide⟩⟩
theorem tok15 : TOk Tryz.prog 15 { k := .ptr 174, sz := 1, bys := 8, z := some [.nilp] } := ⟨by kernel_rfl, by kernel_rfl, fun l h => by injection h with h; subst h; exact ⟨by kernel_rfl, by kernel_rfl, by decide⟩⟩
theorem tok16 : TOk Tryz.prog 16 { k := .ptr 177, sz := 1, bys := 8, z := some [.nilp] } := ⟨by kernel_rfl, by kernel_rfl, fun l h => by injection h with h; subst h; exact ⟨by kernel_rfl, by kernel_rfl, by decide⟩⟩
theorem tok17 : TOk Tryz.prog 17 { k := .ptr 185, sz := 1, bys := 8, z := some [.nilp] } := ⟨by kernel_rfl, by kernel_rfl, fun l h => by injection h with h; subst h; exact ⟨by kernel_rfl, by kernel_rfl, by decide⟩⟩
theorem tok18 : TOk Tryz.prog 18 { k := .struct [(0, 17)], sz := 1, bys := 8, z := some [.nilp] } := ⟨by kernel_rfl, by kernel_rfl, fun l h => by injection h with h; subst h; exact ⟨by kernel_rfl, by kernel_rfl, by decide⟩⟩
theorem tok19 : TOk Tryz.prog 19 { k := .struct [(0, 17)], sz := 1, bys := 8, z := some [.nilp] } := ⟨by kernel_rfl, by kernel_rfl, fun l h => by injection h with h; subst h; exact ⟨by kernel_rfl, by kernel_rfl, by decide⟩⟩
theorem tok21 : TOk Tryz.prog 21 { k := .int .i32, sz := 1, bys := 4, z := some [.int .i32 0] } := ⟨by kernel_rfl, by kernel_rfl, fun l h => by injection h with h; subst h; exact ⟨by kernel_rfl, by kernel_rfl, by decide⟩⟩
theorem tok22 : TOk Tryz.prog 22 { k := .slice 9, sz := 1, bys := 24, z := some [.nil] } := ⟨by kernel_rfl, by kernel_rfl, fun l h => by injection h with h; subst h; exact ⟨by kernel_rfl, by kernel_rfl, by decide⟩⟩
theorem tok23 : TOk Tryz.prog 23 { k := .struct [(0, 9), (1, 22), (2, 3)], sz := 3, bys := 48, z := some [.str [], .nil, .int .i64 0] } := ⟨by kernel_rfl, by kernel_rfl, fun l h => by injection h with h; subst h; exact ⟨by kernel_rfl, by kernel_rfl, by decide⟩⟩
theorem tok24 : TOk Tryz.prog 24 { k := .struct [(0, 9), (1, 22), (2, 3)], sz := 3, bys := 48, z := some [.str [], .nil, .int .i64 0] } := ⟨by kernel_rfl, by kernel_rfl, fun l h => by injection h with h; subst h; exact ⟨by kernel_rfl, by kernel_rfl, by decide⟩⟩
theorem tok25 : TOk Tryz.prog 25 { k := .slice 27, sz := 1, bys := 24, z := some [.nil] } := ⟨by kernel_rfl, by kernel_rfl, fun l h => by injection h with h; subst h; exact ⟨by kernel_rfl, by kernel_rfl, by decide⟩⟩
theorem tok26 : TOk Tryz.prog 26 { k := .struct [(0, 3), (1, 3), (2, 9), (3, 25), (4, 22)], sz := 5, bys := 80, z := some [.int .i64 0, .int .i64 0, .str [], .nil, .nil] } := ⟨by kernel_rfl, by kernel_rfl, fun l h => by injection h with h; subst h; exact ⟨by kernel_rfl, by kernel_rfl, by decide⟩⟩
theorem tok27 : TOk Tryz.prog 27 { k := .struct [(0, 3), (1, 3), (2, 9), (3, 25), (4, 22)], sz := 5, bys := 80, z := some [.int .i64 0, .int .i64 0, .str [], .nil, .nil] } := ⟨by kernel_rfl, by kernel_rfl, fun l h => by injection h with h; subst h; exact ⟨by kernel_rfl, by kernel_rfl, by decide⟩⟩
theorem tok28 : TOk Tryz.prog 28 { k := .slice 83, sz := 1, bys := 24, z := some [.nil] } := ⟨by kernel_rfl, by kernel_rfl, fun l h => by injection h with h; subst h; exact ⟨by kernel_rfl, by kernel_rfl, by decide⟩⟩
theorem tok29 : TOk Tryz.prog 29 { k := .struct [(0, 3), (1, 3), (2, 9), (3, 9), (4, 27), (9, 27), (14, 28), (15, 3), (16, 3)], sz := 17, bys := 248, z := some [.int .i64 0, .int .i64 0, .str [], .str [], .int .i64 0, .int .i64 0, .str [], .nil, .nil, .int .i64 0, .int .i64 0, .str [], .nil, .nil, .nil, .int .i64 0, .int .i64 0] } := ⟨by kernel_rfl, by kernel_rfl, fun l h => by injection h with h; subst h; exact ⟨by kernel_rfl, by kernel_rfl, by decide⟩⟩
theorem tok30 : TOk Tryz.prog 30 { k := .struct [(0, 3), (1, 3), (2, 9), (3, 9), (4, 27), (9, 27), (14, 28), (15, 3), (16, 3)], sz := 17, bys := 248, z := some [.int .i64 0, .int .i64 0, .str [], .str [], .int .i64 0, .int .i64 0, .str [], .nil, .nil, .int .i64 0, .int .i64 0, .str [], .nil, .nil, .nil, .int .i64 0, .int .i64 0] } := ⟨by kernel_rfl, by kernel_rfl, fun l h => by injection h with h; subst h; exact ⟨by kernel_rfl, by kernel_rfl, by decide⟩⟩
theorem tok34 : TOk Tryz.prog 34 { k := .slice 30, sz := 1, bys := 24, z := some [.nil] } := ⟨by kernel_rfl, by kernel_rfl, fun l h => by injection h with h; subst h; exact ⟨by kernel_rfl, by kernel_rfl, by decide⟩⟩
theorem tok37 : TOk Tryz.prog 37 { k := .slice 3, sz := 1, bys := 24, z := some [.nil] } := ⟨by kernel_rfl, by kernel_rfl, fun l h => by injection h with h; subst h; exact ⟨by kernel_rfl, by kernel_rfl, by decide⟩⟩
theorem tok44 : TOk Tryz.prog 44 { k := .int .i64, sz := 1, bys := 8, z := some [.int .i64 0] } := ⟨by kernel_rfl, by kernel_rfl, fun l h => by injection h with h; subst h; exact ⟨by kernel_rfl, by kernel_rfl, by decide⟩⟩
theorem tok52 : TOk Tryz.prog 52 { k := .slice 5, sz := 1, bys := 24, z := some [.nil] } := ⟨by kernel_rfl, by kernel_rfl, fun l h => by injection h with h; subst h; exact ⟨by kernel_rfl, by kernel_rfl, by decide⟩⟩
theorem tok55 : TOk Tryz.prog 55 { k := .ptr 102, sz := 1, bys := 8, z := some [.nilp] } := ⟨by kernel_rfl, by kernel_rfl, fun l h => by injection h with h; subst h; exact ⟨by kernel_rfl, by kernel_rfl, by decide⟩⟩
theorem tok61 : TOk Tryz.prog 61 { k := .ptr 63, sz := 1, bys := 8, z := some [.nilp] } := ⟨by kernel_rfl, by kernel_rfl, fun l h => by injection h with h; subst h; exact ⟨by kernel_rfl, by kernel_rfl, by decide⟩⟩
theorem tok62 : TOk Tryz.prog 62 { k := .struct [(0, 52), (1, 4)], sz := 2, bys := 32, z := some [.nil, .bool false] } := ⟨by kernel_rfl, by kernel_rfl, fun l h => by injection h with h; subst h; exact ⟨by kernel_rfl, by kernel_rfl, by decide⟩⟩
theorem tok63 : TOk Tryz.prog 63 { k := .struct [(0, 52), (1, 4)], sz := 2, bys := 32, z := some [.nil, .bool false] } := ⟨by kernel_rfl, by kernel_rfl, fun l h => by injection h with h; subst h; exact ⟨by kernel_rfl, by kernel_rfl, by decide⟩⟩
theorem tok82 : TOk Tryz.prog 82 { k := .struct [(0, 3), (1, 22), (2, 27), (7, 3)], sz := 8, bys := 120, z := some [.int .i64 0, .nil, .int .i64 0, .int .i64 0, .str [], .nil, .nil, .int .i64 0] } := ⟨by kernel_rfl, by kernel_rfl, fun l h => by injection h with h; subst h; exact ⟨by kernel_rfl, by kernel_rfl, by decide⟩⟩
theorem tok83 : TOk Tryz.prog 83 { k := .struct [(0, 3), (1, 22), (2, 27), (7, 3)], sz := 8, bys := 120, z := some [.int .i64 0, .nil, .int .i64 0, .int .i64 0, .str [], .nil, .nil, .int .i64 0] } := ⟨by kernel_rfl, by kernel_rfl, fun l h => by injection h with h; subst h; exact ⟨by kernel_rfl, by kernel_rfl, by decide⟩⟩
theorem tok101 : TOk Tryz.prog 101 { k := .struct [(0, 52), (1, 4)], sz := 2, bys := 32, z := some [.nil, .bool false] } := ⟨by kernel_rfl, by kernel_rfl, fun l h => by injection h with h; subst h; exact ⟨by kernel_rfl, by kernel_rfl, by decide⟩⟩
theorem tok102 : TOk Tryz.prog 102 { k := .struct [(0, 52), (1, 4)], sz := 2, bys := 32, z := some [.nil, .bool false] } := ⟨by kernel_rfl, by kernel_rfl, fun l h => by injection h with h; subst h; exact ⟨by kernel_rfl, by kernel_rfl, by decide⟩⟩
theorem tok126 : TOk Tryz.prog 126 { k := .int .u64, sz := 1, bys := 8, z := some [.int .u64 0] } := ⟨by kernel_rfl, by kernel_rfl, fun l h => by injection h with h; subst h; exact ⟨by kernel_rfl, by kernel_rfl, by decide⟩⟩
theorem tok138 : TOk Tryz.prog 138 { k := .map 9 4, sz := 1, bys := 8, z := none } := ⟨by kernel_rfl, by kernel_rfl, fun l h => by cases h⟩
theorem tok143 : TOk Tryz.prog 143 { k := .int .u64, sz := 1, bys := 8, z := some [.int .u64 0] } := ⟨by kernel_rfl, by kernel_rfl, fun l h => by injection h with h; subst h; exact ⟨by kernel_rfl, by kernel_rfl, by decide⟩⟩
theorem tok148 : TOk Tryz.prog 148 { k := .arr 256 4, sz := 256, bys := 256, z := some (List.replicate 256 (.bool false)) } := ⟨by kernel_rfl, by kernel_rfl, fun l h => by injection h with h; subst h; exact ⟨by kernel_rfl, by kernel_rfl, by decide⟩⟩
theorem tok149 : TOk Tryz.prog 149 { k := .arr 256 4, sz := 256, bys := 256, z := some (List.replicate 256 (.bool false)) } := ⟨by kernel_rfl, by kernel_rfl, fun l h => by injection h with h; subst h; exact ⟨by kernel_rfl, by kernel_rfl, by decide⟩⟩
theorem tok167 : TOk Tryz.prog 167 { k := .ptr 149, sz := 1, bys := 8, z := some [.nilp] } := ⟨by kernel_rfl, by kernel_rfl, fun l h => by injection h with h; subst h; exact ⟨by kernel_rfl, by kernel_rfl, by decide⟩⟩
theorem tok169 : TOk Tryz.prog 169 { k := .int .u32, sz := 1, bys := 4, z := some [.int .u32 0] } := ⟨by kernel_rfl, by kernel_rfl, fun l h => by injection h with h; subst h; exact ⟨by kernel_rfl, by kernel_rfl, by decide⟩⟩
theorem tok173 : TOk Tryz.prog 173 { k := .struct [(0, 17), (1, 17), (2, 17), (3, 9)], sz := 4, bys := 40, z := some [.nilp, .nilp, .nilp, .str []] } := ⟨by kernel_rfl, by kernel_rfl, fun l h => by injection h with h; subst h; exact ⟨by kernel_rfl, by kernel_rfl, by decide⟩⟩
theorem tok174 : TOk Tryz.prog 174 { k := .struct [(0, 17), (1, 17), (2, 17), (3, 9)], sz := 4, bys := 40, z := some [.nilp, .nilp, .nilp, .str []] } := ⟨by kernel_rfl, by kernel_rfl, fun l h => by injection h with h; subst h; exact ⟨by kernel_rfl, by kernel_rfl, by decide⟩⟩
theorem tok175 : TOk Tryz.prog 175 { k := .arr 0 16, sz := 0, bys := 0, z := some (List.replicate 0 (.nilp)) } := ⟨by kernel_rfl, by kernel_rfl, fun l h => by injection h with h; subst h; exact ⟨by kernel_rfl, by kernel_rfl, by decide⟩⟩
theorem tok176 : TOk Tryz.prog 176 { k := .struct [(0, 175)], sz := 0, bys := 0, z := some [] } := ⟨by kernel_rfl, by kernel_rfl, fun l h => by injection h with h; subst h; exact ⟨by kernel_rfl, by kernel_rfl, by decide⟩⟩
theorem tok177 : TOk Tryz.prog 177 { k := .struct [(0, 175)], sz := 0, bys := 0, z := some [] } := ⟨by kernel_rfl, by kernel_rfl, fun l h => by injection h with h; subst h; exact ⟨by kernel_rfl, by kernel_rfl, by decide⟩⟩
theorem tok178 : TOk Tryz.prog 178 { k := .int .u8, sz := 1, bys := 1, z := some [.int .u8 0] } := ⟨by kernel_rfl, by kernel_rfl, fun l h => by injection h with h; subst h; exact ⟨by kernel_rfl, by kernel_rfl, by decide⟩⟩
theorem tok179 : TOk Tryz.prog 179 { k := .int .u8, sz := 1, bys := 1, z := some [.int .u8 0] } := ⟨by kernel_rfl, by kernel_rfl, fun l h => by injection h with h; subst h; exact ⟨by kernel_rfl, by kernel_rfl, by decide⟩⟩
theorem tok181 : TOk Tryz.prog 181 { k := .ptr 5, sz := 1, bys := 8, z := some [.nilp] } := ⟨by kernel_rfl, by kernel_rfl, fun l h => by injection h with h; subst h; exact ⟨by kernel_rfl, by kernel_rfl, by decide⟩⟩
theorem tok182 : TOk Tryz.prog 182 { k := .int .i32, sz := 1, bys := 4, z := some [.int .i32 0] } := ⟨by kernel_rfl, by kernel_rfl, fun l h => by injection h with h; subst h; exact ⟨by kernel_rfl, by kernel_rfl, by decide⟩⟩
theorem tok183 : TOk Tryz.prog 183 { k := .int .i32, sz := 1, bys := 4, z := some [.int .i32 0] } := ⟨by kernel_rfl, by kernel_rfl, fun l h => by injection h with h; subst h; exact ⟨by kernel_rfl, by kernel_rfl, by decide⟩⟩
theorem tok184 : TOk Tryz.prog 184 { k := .struct [(0, 12), (1, 12), (2, 169), (3, 178), (4, 5), (5, 5), (6, 179), (7, 180), (8, 181), (9, 182), (10, 183)], sz := 11, bys := 48, z := none } := ⟨by kernel_rfl, by kernel_rfl, fun l h => by cases h⟩
theorem tok185 : TOk Tryz.prog 185 { k := .struct [(0, 12), (1, 12), (2, 169), (3, 178), (4, 5), (5, 5), (6, 179), (7, 180), (8, 181), (9, 182), (10, 183)], sz := 11, bys := 48, z := none } := ⟨by kernel_rfl, by kernel_rfl, fun l h => by cases h⟩
theorem tabOk : TabOk Tryz.prog Θ := tab_of tl (by
  simp only [tl, List.forall_mem_cons]
  exact ⟨tok2, tok3, tok4, tok5, tok6, tok7, tok8, tok9, tok10, tok11, tok12, tok13, tok14, tok15, tok16, tok17, tok18, tok19, tok21, tok22, tok23, tok24, tok25, tok26, tok27, tok28, tok29, tok30, tok34, tok37, tok44, tok52, tok55, tok61, tok62, tok63, tok82, tok83, tok101, tok102, tok126, tok138, tok143, tok148, tok149, tok167, tok169, tok173, tok174, tok175, tok176, tok177, tok178, tok179, tok181, tok182, tok183, tok184, tok185, by simp⟩)

end Go.Proofs.YtpkcbdhjnnnkbaaGreat.Abs

/- Steps of a walk, one law for each form of an operation; loops; contracts of functions that only answer. -/
set_option linter.unusedVariables false
set_option linter.unusedSimpArgs false
namespace Go.Proofs.YtpkcbdhjnnnkbaaGreat.Abs
open Go

def bodyOf (f : Func) : Code := f.body.getD .skip

/-- Slots, from a list. -/
def al (l : List (Nat × SV)) : Nat → SV := fun u => match l.find? (fun p => Nat.beq p.1 u) with
  | some p => p.2
  | none => .any

/-- Less is known. -/
def Le (k0 : Nat) (s s' : St) : Prop := ∀ E a w, E.nk = k0 → Rel E s a w → Rel E s' a w
theorem Le.refl (k0 : Nat) (s : St) : Le k0 s s := fun _ _ _ _ h => h
theorem Le.trans {k0 : Nat} {s t u : St} (h : Le k0 s t) (k : Le k0 t u) : Le k0 s u := fun E a w e hr => k E a w e (h E a w e hr)
theorem Le.slots {k0 nk : Nat} {sl l : Nat → SV} {o : Nat → Option AO} (h : ∀ u, l u = .any ∨ l u = sl u) : Le k0 ⟨sl, o, nk⟩ ⟨l, o, nk⟩ := by
  rintro E a w e ⟨S, γ, hr⟩
  refine ⟨S, γ, hr.sto, hr.tr, fun u => ?_, fun u => ?_, hr.df, hr.nn⟩
  · rcases h u with h1 | h1
    · show SR w S γ o (l u) _
      rw [h1]; exact .any _
    · show SR w S γ o (l u) _
      rw [h1]; exact hr.sl u
  · rcases h u with h1 | h1
    · show (l u).lt nk
      rw [h1]; trivial
    · show (l u).lt nk
      rw [h1]; exact hr.slt u
theorem Le.al {k0 nk : Nat} {sl : Nat → SV} {l : List (Nat × SV)} {o : Nat → Option AO} (h : ∀ p ∈ l, sl p.1 = p.2) : Le k0 ⟨sl, o, nk⟩ ⟨Abs.al l, o, nk⟩ := by
  refine Le.slots fun u => ?_
  unfold Abs.al
  split
  · rename_i p hp
    right
    have h1 := List.mem_of_find?_eq_some hp
    have h2 := List.find?_some hp
    have h3 : p.1 = u := Nat.eq_of_beq_eq_true h2
    rw [← h3, h p h1]
  · exact .inl rfl
theorem Le.wk {s s' : St} {τ : Nat → Nat} {k0 : Nat} (h : Wk k0 τ s s') : Le k0 s s' := fun E a w e hr => hr.wk (e ▸ h)

section
variable {P : Program} {Θ : Tab} {n k0 : Nat} {Q : Exit → St → Prop}
theorem WP.le {c : Code} {s s' : St} (h : Le k0 s s') (k : WP P n k0 c s' Q) : WP P n k0 c s Q := WP.of h k
theorem WP.loopL {s : St} {ι : Type} {c : Code} (I : ι → St) (A : ι → Prop) (μ : ι → Nat)
    (round : ∀ i, A i → WP P n k0 c (I i) (Qthen (fun s' => ∃ j, A j ∧ μ j < μ i ∧ Le k0 s' (I j)) Q)) (i : ι) (hi : A i) (hs : Le k0 s (I i)) : WP P n k0 (.loop c) s Q := by
  refine WP.le hs ?_
  refine WP.loop I A μ (fun i hA => ?_) i hi rfl
  intro E a w h1 h2 h3
  refine Go.wp_mono (round i hA E a w h1 h2 h3) ?_
  rintro e a' w' ⟨s', hr, q⟩
  cases e with
  | normal =>
    obtain ⟨j, hAj, hlt, hk⟩ := q
    exact ⟨I j, hk E a' w' h2 hr, j, hAj, hlt, rfl⟩
  | _ => exact ⟨s', hr, q⟩
/-- Two ways that come together. -/
theorem WP.seqJ {s : St} (I : St) {x y : Code} (h : WP P n k0 x s (Qthen (fun s' => Le k0 s' I) Q)) (k : WP P n k0 y I Q) : WP P n k0 (.seq x y) s Q :=
  WP.seq fun K hK => WP.mono h fun e s' hq => by
    cases e with
    | normal => exact hK s' (WP.le hq k)
    | _ => exact hq
theorem WP.reg (hΘ : TabOk P Θ) {s : St} {id : Nat} {l : List Oper} (hd : (l.all fun o => dstOk n o.dst) = true) (h : vOps P Θ l.toArray (Q .normal) l s) : WP P n k0 (.region id l.toArray false) s Q :=
  WP.region hΘ (by simpa using hd) (by simpa using h)
theorem WP.drw (hΘ : TabOk P Θ) (hm : P.follows .mixedOrders = true) {s : St} {id : Nat} {l : List Oper} (hd : (l.all fun o => dstOk n o.dst) = true) (hf : flowOk l.toArray = true) (h : dOps P Θ l.toArray (Q .normal) l s) : WP P n k0 (.region id l.toArray true) s Q :=
  WP.drawn hΘ hm (by simpa using hd) hf (by simpa using h)
end

/-- It answers r, and nothing that is known has changed. -/
def PSpec (P : Program) (f : FuncId) (args : List SV) (r : SV) : Prop := ∀ (o : Nat → Option AO) (nk : Nat), Spec P f args o nk fun r' o' nk' => r' = r ∧ o' = o ∧ nk' = nk

theorem Spec.pure {P : Program} {f : FuncId} {args : List SV} {o : Nat → Option AO} {nk : Nat} {r : SV} (hr : ∀ m, r.lt m) (hid : r.ren id = r)
    (h : Spec P f args o nk fun r' o' nk' => r' = r ∧ nk ≤ nk' ∧ ∀ t, t < nk → o' t = o t) : Spec P f args o nk fun r' o' nk' => r' = r ∧ o' = o ∧ nk' = nk := by
  intro w S γ vs h1 h2 h3 h4
  refine (h w S γ vs h1 h2 h3 h4).mono ?_
  rintro v w' ⟨r', o', nk', S', γ', ⟨rfl, hnk, ho⟩, hs, ht, hsr, hl⟩
  have hk : Wko nk id o' o nk := by
    refine ⟨Nat.le_refl _, fun t x hx => ?_, fun t t' x x' _ _ e => e, fun _ _ _ _ => rfl⟩
    have hlt := h1.o_lt t x hx
    refine ⟨hlt, by rw [AO.ren_id]; show o' t = some x; rw [ho t hlt, hx], ?_⟩
    cases x with
    | box cs => exact (h1.box t cs hx).2
    | row e z xs => trivial
    | raw ob => trivial
  exact ⟨r', o, nk, S', γ' ∘ id, ⟨rfl, rfl, rfl⟩, hk.sto hs, hk.tr ht, hsr.of_ren (fun t x hx => (hk.o t x hx).2.1) r' hid, hr _⟩

theorem PSpec.of {P : Program} {f : FuncId} {n : Nat} {ts : List Nat} {c : Code} {args : List SV} {x : D} (hf : FnOk P f n ts c) (hn : args.length ≤ n)
    (h : ∀ o nk, WP P n nk c ⟨slots args, o, nk⟩ (retQ ts fun r o' nk' => r = .d x ∧ nk ≤ nk' ∧ ∀ t, t < nk → o' t = o t)) : PSpec P f args (.d x) := fun o nk =>
  Spec.pure (fun _ => trivial) rfl (Spec.of_body hf hn (h o nk))
theorem PSpec.of2 {P : Program} {f : FuncId} {n : Nat} {ts : List Nat} {c : Code} {args : List SV} {xs : List D} (hf : FnOk P f n ts c) (hn : args.length ≤ n)
    (h : ∀ o nk, WP P n nk c ⟨slots args, o, nk⟩ (retQ ts fun r o' nk' => r = .tup (xs.map .d) ∧ nk ≤ nk' ∧ ∀ t, t < nk → o' t = o t)) : PSpec P f args (.tup (xs.map .d)) := fun o nk => by
  refine Spec.pure (fun m => ?_) ?_ (Spec.of_body hf hn (h o nk))
  · exact lts_of fun i c hc => by
      rw [List.getElem?_map] at hc
      obtain ⟨d, _, rfl⟩ := Option.map_eq_some_iff.1 hc
      trivial
  · show SV.tup (SV.rens id (xs.map .d)) = _
    rw [SV.rens_id]

/-! ### the steps -/
theorem cnd_true (v : SV) : cnd true v = v := by unfold cnd; rfl
theorem cnd_false (v : SV) : cnd false v = .tup [] := by unfold cnd; rfl

section
variable {P : Program} {Θ : Tab} {ops : Array Oper} {K : St → Prop} {r : List Oper} {sl : Nat → SV} {o : Nat → Option AO} {nk d ty j : Nat} {op : Op} {pos : String} {af : Array Edge} {want c : Bool} {v : SV}
theorem u_step (h : vOp P Θ op ⟨sl, o, nk⟩ fun v o' nk' => vOps P Θ ops K r ⟨upd sl d v, o', nk'⟩) :
    vOps P Θ ops K ({ dst := some d, op := op, type := ty, pos := pos, after := af, guard := none } :: r) ⟨sl, o, nk⟩ := h
theorem u_step0 (h : vOp P Θ op ⟨sl, o, nk⟩ fun v o' nk' => vOps P Θ ops K r ⟨sl, o', nk'⟩) :
    vOps P Θ ops K ({ dst := none, op := op, type := ty, pos := pos, after := af, guard := none } :: r) ⟨sl, o, nk⟩ := h
theorem u_guard (hb : GC (gsl ops ⟨sl, o, nk⟩ j) want c) (h : c = true → vOp P Θ op ⟨sl, o, nk⟩ fun v' o' nk' => v' = v ∧ o' = o ∧ nk' = nk) (k : vOps P Θ ops K r ⟨upd sl d (cnd c v), o, nk⟩) :
    vOps P Θ ops K ({ dst := some d, op := op, type := ty, pos := pos, after := af, guard := some (j, want) } :: r) ⟨sl, o, nk⟩ := ⟨c, v, hb, h, k⟩
theorem d_step (h : vOp P Θ op ⟨sl, o, nk⟩ fun v' o' nk' => v' = v ∧ o' = o ∧ nk' = nk) (k : dOps P Θ ops K r ⟨upd sl d v, o, nk⟩) :
    dOps P Θ ops K ({ dst := some d, op := op, type := ty, pos := pos, after := af, guard := none } :: r) ⟨sl, o, nk⟩ := ⟨v, h, k⟩
theorem d_guard (hb : GC (gsl ops ⟨sl, o, nk⟩ j) want c) (h : c = true → vOp P Θ op ⟨sl, o, nk⟩ fun v' o' nk' => v' = v ∧ o' = o ∧ nk' = nk) (k : dOps P Θ ops K r ⟨upd sl d (cnd c v), o, nk⟩) :
    dOps P Θ ops K ({ dst := some d, op := op, type := ty, pos := pos, after := af, guard := some (j, want) } :: r) ⟨sl, o, nk⟩ := ⟨cnd c v, ⟨c, v, hb, h, rfl⟩, k⟩
theorem u_nil {s : St} (h : K s) : vOps P Θ ops K [] s := h
theorem d_nil {s : St} (h : K s) : dOps P Θ ops K [] s := h
end

section
variable {P : Program} {Θ : Tab} {K : SV → (Nat → Option AO) → Nat → Prop} {sl : Nat → SV} {o : Nat → Option AO} {nk : Nat} {x y ix : Operand} {t e f : Nat} {a b q : D}

theorem o_move (hx : ev sl x = .d a) (h : K (.d a) o nk) : vOp P Θ (.move x) ⟨sl, o, nk⟩ K := by
  show K (ev sl x) o nk
  rw [hx]; exact h
theorem o_assign (hx : ev sl x = .d a) (h : K (.d a) o nk) : vOp P Θ (.assign x) ⟨sl, o, nk⟩ K := by
  show K (ev sl x) o nk
  rw [hx]; exact h
theorem o_moveV {v : SV} (hx : ev sl x = v) (h : K v o nk) : vOp P Θ (.move x) ⟨sl, o, nk⟩ K := by
  show K (ev sl x) o nk
  rw [hx]; exact h
theorem o_assignV {v : SV} (hx : ev sl x = v) (h : K v o nk) : vOp P Θ (.assign x) ⟨sl, o, nk⟩ K := by
  show K (ev sl x) o nk
  rw [hx]; exact h
theorem o_pick_and {c : Operand} {p q : Bool} (hc : ev sl c = .d (.bool p)) (hx : ev sl x = cnd p (.d (.bool q))) (hy : ev sl y = .d (.bool false)) (h : K (.d (.bool (p && q))) o nk) : vOp P Θ (.pick c x y) ⟨sl, o, nk⟩ K := by
  refine ⟨p, hc, ?_⟩
  show K (if p = true then ev sl x else ev sl y) o nk
  rw [hx, hy]
  cases p
  · exact h
  · rw [cnd_true]; exact h
theorem o_pick_or {c : Operand} {p q : Bool} (hc : ev sl c = .d (.bool p)) (hx : ev sl x = .d (.bool true)) (hy : ev sl y = cnd (!p) (.d (.bool q))) (h : K (.d (.bool (p || q))) o nk) : vOp P Θ (.pick c x y) ⟨sl, o, nk⟩ K := by
  refine ⟨p, hc, ?_⟩
  show K (if p = true then ev sl x else ev sl y) o nk
  rw [hx, hy]
  cases p
  · simp only [Bool.not_false, cnd_true]; exact h
  · exact h
theorem o_fa_loc {i j : TI} {fs : List (Nat × Nat)} {off ft k g : Nat} {cs : List SV} (hx : ev sl x = .loc k g) (hi : Θ t = some i) (hk : i.k = .struct fs) (hf : fs[f]? = some (off, ft)) (hj : Θ ft = some j) (hz : j.sz ≠ 0) (ho : o k = some (.box cs)) (h : K (.loc k (g + off)) o nk) :
    vOp P Θ (.fieldAddr t x f) ⟨sl, o, nk⟩ K := by
  refine ⟨i, fs, off, ft, j, hi, hk, hf, hj, hz, ?_⟩
  show (match ev sl x with | .loc k g => _ | .el x => _ | .rel k q g => _ | _ => False)
  rw [hx]; exact ⟨⟨cs, ho⟩, h⟩
theorem o_fa_el {i j : TI} {fs : List (Nat × Nat)} {off ft : Nat} (hx : ev sl x = .el a) (hi : Θ t = some i) (hk : i.k = .struct fs) (hf : fs[f]? = some (off, ft)) (hj : Θ ft = some j) (hz : j.sz ≠ 0) (hs : a.sub off j.sz j.k.agg = some b) (h : K (.el b) o nk) :
    vOp P Θ (.fieldAddr t x f) ⟨sl, o, nk⟩ K := by
  refine ⟨i, fs, off, ft, j, hi, hk, hf, hj, hz, ?_⟩
  show (match ev sl x with | .loc k g => _ | .el x => _ | .rel k q g => _ | _ => False)
  rw [hx]; exact ⟨b, hs, h⟩
theorem o_fv {i j : TI} {fs : List (Nat × Nat)} {off ft : Nat} (hx : ev sl x = .d a) (hi : Θ t = some i) (hk : i.k = .struct fs) (hf : fs[f]? = some (off, ft)) (hj : Θ ft = some j) (hs : a.sub off j.sz j.k.agg = some b) (h : K (.d b) o nk) :
    vOp P Θ (.field t x f) ⟨sl, o, nk⟩ K := by
  refine ⟨i, fs, off, ft, j, hi, hk, hf, hj, ?_⟩
  show (match ev sl x with | .d x => _ | _ => False)
  rw [hx]; exact ⟨b, hs, h⟩
theorem o_ld_loc {i : TI} {k g : Nat} {cs : List SV} {v : D} (hx : ev sl x = .loc k g) (hi : Θ t = some i) (ha : i.k.agg = false) (ho : o k = some (.box cs)) (hc : cs[g]? = some (.d v)) (h : K (.d v) o nk) : vOp P Θ (.load t x) ⟨sl, o, nk⟩ K := by
  refine ⟨i, hi, ?_⟩
  show (match ev sl x with | .loc k f => _ | .el x => _ | _ => False)
  rw [hx]
  refine ⟨cs, ho, ?_⟩
  rw [if_neg (by rw [ha]; simp)]
  exact ⟨_, hc, h⟩
theorem o_ld_locV {i : TI} {k g : Nat} {cs : List SV} {v : SV} (hx : ev sl x = .loc k g) (hi : Θ t = some i) (ha : i.k.agg = false) (ho : o k = some (.box cs)) (hc : cs[g]? = some v) (h : K v o nk) : vOp P Θ (.load t x) ⟨sl, o, nk⟩ K := by
  refine ⟨i, hi, ?_⟩
  show (match ev sl x with | .loc k f => _ | .el x => _ | _ => False)
  rw [hx]
  refine ⟨cs, ho, ?_⟩
  rw [if_neg (by rw [ha]; simp)]
  exact ⟨_, hc, h⟩
theorem o_ld_agg {i : TI} {k g : Nat} {cs : List SV} {ds : List D} (hx : ev sl x = .loc k g) (hi : Θ t = some i) (ha : i.k.agg = true) (ho : o k = some (.box cs)) (hc : allD ((cs.drop g).take i.sz) = some ds) (hl : ds.length = i.sz) (hlf : ds.all D.leaf = true) (h : K (.d (.agg ds)) o nk) : vOp P Θ (.load t x) ⟨sl, o, nk⟩ K := by
  refine ⟨i, hi, ?_⟩
  show (match ev sl x with | .loc k f => _ | .el x => _ | _ => False)
  rw [hx]
  refine ⟨cs, ho, ?_⟩
  rw [if_pos ha]
  exact ⟨ds, hc, hl, hlf, h⟩
theorem o_ld_el {i : TI} (hx : ev sl x = .el a) (hi : Θ t = some i) (h1 : a.leaf = !i.k.agg) (h2 : a.width = i.sz) (h : K (.d a) o nk) : vOp P Θ (.load t x) ⟨sl, o, nk⟩ K := by
  refine ⟨i, hi, ?_⟩
  show (match ev sl x with | .loc k f => _ | .el x => _ | _ => False)
  rw [hx]
  exact ⟨h1, h2, h⟩
theorem o_box_agg {cs : List D} (hx : ev sl x = .d (.agg cs)) (h : K (.loc nk 0) (upd o nk (some (.box (cs.map .d)))) (nk + 1)) : vOp P Θ (.box e x) ⟨sl, o, nk⟩ K := by
  refine ⟨cs.map .d, ?_, h⟩
  show (ev sl x).cells o = _
  rw [hx]; rfl
theorem o_box_leaf (hx : ev sl x = .d a) (hl : a.leaf = true) (h : K (.loc nk 0) (upd o nk (some (.box [.d a]))) (nk + 1)) : vOp P Θ (.box e x) ⟨sl, o, nk⟩ K := by
  refine ⟨[.d a], ?_, h⟩
  show (ev sl x).cells o = _
  rw [hx]
  cases a <;> simp [D.leaf] at hl <;> rfl
theorem o_alloc {i : TI} {l : List D} (hi : Θ e = some i) (hz : i.z = some l) (h : K (.loc nk 0) (upd o nk (some (.box (l.map .d)))) (nk + 1)) : vOp P Θ (.alloc e) ⟨sl, o, nk⟩ K := ⟨i, l, hi, hz, h⟩
theorem o_st_leaf {i : TI} {k g : Nat} {cs : List SV} (hx : ev sl x = .loc k g) (hy : ev sl y = .d a) (hl : a.leaf = true) (hi : Θ t = some i) (hs : i.sz = 1) (ho : o k = some (.box cs)) (hle : g < cs.length) (h : K .any (upd o k (some (.box (cs.take g ++ [.d a] ++ cs.drop (g + 1))))) nk) : vOp P Θ (.store t x y) ⟨sl, o, nk⟩ K := by
  refine ⟨i, [.d a], hi, ?_, hs.symm, ?_⟩
  · show (ev sl y).cells o = _
    rw [hy]
    cases a <;> simp [D.leaf] at hl <;> rfl
  · show (match ev sl x with | .loc k f => _ | _ => False)
    rw [hx]
    exact ⟨cs, ho, hle, h⟩
theorem o_st_agg {i : TI} {k g : Nat} {cs : List SV} {ds : List D} (hx : ev sl x = .loc k g) (hy : ev sl y = .d (.agg ds)) (hi : Θ t = some i) (hs : ds.length = i.sz) (ho : o k = some (.box cs)) (hle : g + ds.length ≤ cs.length) (h : K .any (upd o k (some (.box (cs.take g ++ ds.map .d ++ cs.drop (g + ds.length))))) nk) : vOp P Θ (.store t x y) ⟨sl, o, nk⟩ K := by
  refine ⟨i, ds.map .d, hi, ?_, by simpa using hs, ?_⟩
  · show (ev sl y).cells o = _
    rw [hy]; rfl
  · show (match ev sl x with | .loc k f => _ | _ => False)
    rw [hx]
    exact ⟨cs, ho, by simpa using hle, by simpa using h⟩
theorem o_ia_sl {i j : TI} {z : Nat} {xs : List D} {k : IntKind} {m : Int} (hx : ev sl x = .d (.sl z xs)) (hy : ev sl ix = .d (.int k m)) (hi : Θ t = some i) (hk : i.k = .slice e) (hj : Θ e = some j) (hz : z = j.sz) (h0 : 0 ≤ m) (ha : xs[m.toNat]? = some a) (h : K (.el a) o nk) : vOp P Θ (.indexAddr t x ix) ⟨sl, o, nk⟩ K := by
  refine ⟨i, e, j, k, m, hi, .inl hk, hj, hy, h0, ?_⟩
  show (match ev sl x with | .d (.sl z xs) => _ | .row q => _ | .loc q f => _ | _ => False)
  rw [hx]
  exact ⟨hk, hz, a, ha, h⟩
theorem o_ia_arr {i j : TI} {q g c : Nat} {cs : List SV} {k : IntKind} {m : Int} (hx : ev sl x = .loc q g) (hy : ev sl ix = .d (.int k m)) (hi : Θ t = some i) (hk : i.k = .arr c e) (hj : Θ e = some j) (h0 : 0 ≤ m) (hlt : m.toNat < c) (ho : o q = some (.box cs)) (h : K (.loc q (g + m.toNat * j.sz)) o nk) : vOp P Θ (.indexAddr t x ix) ⟨sl, o, nk⟩ K := by
  refine ⟨i, e, j, k, m, hi, .inr ⟨c, hk, hlt⟩, hj, hy, h0, ?_⟩
  show (match ev sl x with | .d (.sl z xs) => _ | .row q => _ | .loc q f => _ | _ => False)
  rw [hx]
  exact ⟨⟨c, hk⟩, ⟨cs, ho⟩, h⟩
theorem o_ix {i : TI} {l : List UInt8} {k : IntKind} {m : Int} (hx : ev sl x = .d (.str l)) (hy : ev sl ix = .d (.int k m)) (hi : Θ t = some i) (hk : i.k = .str) (h0 : 0 ≤ m) (hlt : m.toNat < l.length) (h : K (.d (.int .u8 (bAt l m.toNat))) o nk) : vOp P Θ (.index t x ix) ⟨sl, o, nk⟩ K :=
  ⟨i, l, k, m, hi, hk, hx, hy, h0, hlt, h⟩
theorem o_len_sl {i : TI} {z : Nat} {xs : List D} (hx : ev sl x = .d (.sl z xs)) (hi : Θ t = some i) (hk : i.k = .slice e) (h : K (.d (.int .i64 xs.length)) o nk) : vOp P Θ (.call { callee := .builtin .len, args := #[x], argTypes := #[t] }) ⟨sl, o, nk⟩ K := by
  show leOp Θ o #[t] (ev sl x) (fun v => K v o nk)
  rw [hx]; exact ⟨t, i, rfl, hi, ⟨e, hk⟩, _, rfl, h⟩
theorem o_len_nil {i : TI} (hx : ev sl x = .d .nil) (hi : Θ t = some i) (hk : i.k = .slice e) (h : K (.d (.int .i64 0)) o nk) : vOp P Θ (.call { callee := .builtin .len, args := #[x], argTypes := #[t] }) ⟨sl, o, nk⟩ K := by
  show leOp Θ o #[t] (ev sl x) (fun v => K v o nk)
  rw [hx]; exact ⟨t, i, rfl, hi, ⟨e, hk⟩, _, rfl, h⟩
theorem o_len_row {i : TI} {q e' z : Nat} {xs : List D} (hx : ev sl x = .row q) (hi : Θ t = some i) (hk : i.k = .slice e) (ho : o q = some (.row e' z xs)) (h : K (.d (.int .i64 xs.length)) o nk) : vOp P Θ (.call { callee := .builtin .len, args := #[x], argTypes := #[t] }) ⟨sl, o, nk⟩ K := by
  show leOp Θ o #[t] (ev sl x) (fun v => K v o nk)
  rw [hx]; exact ⟨t, i, rfl, hi, ⟨e, hk⟩, _, by simp [lenD, ho], h⟩
theorem o_len_str {i : TI} {l : List UInt8} (hx : ev sl x = .d (.str l)) (hi : Θ t = some i) (hk : i.k = .str) (h : K (.d (.int .i64 l.length)) o nk) : vOp P Θ (.call { callee := .builtin .len, args := #[x], argTypes := #[t] }) ⟨sl, o, nk⟩ K := by
  show leOp Θ o #[t] (ev sl x) (fun v => K v o nk)
  rw [hx]; exact ⟨t, i, rfl, hi, hk, _, rfl, h⟩
theorem o_mm {ts : Array Nat} {bi : Builtin} {r : D} (hb : bi = .max ∨ bi = .min) (h1 : mmD (bi == .max) (ev sl x) (ev sl y) = some r) (h : K (.d r) o nk) : vOp P Θ (.call { callee := .builtin bi, args := #[x, y], argTypes := ts }) ⟨sl, o, nk⟩ K := by
  rcases hb with rfl | rfl <;> exact ⟨r, h1, h⟩
theorem o_bin_int {bo : BinOp} {u : Nat} {k : IntKind} {m m' : Int} {r : D} (hx : ev sl x = .d (.int k m)) (hy : ev sl y = .d (.int k m')) (hb : bo ≠ .shl ∧ bo ≠ .shr) (hr : intBin bo k m m' = some r) (h : K (.d r) o nk) : vOp P Θ (.binOp bo t x y u) ⟨sl, o, nk⟩ K := by
  show bnOp Θ o bo t (ev sl x) (ev sl y) (fun v => K v o nk)
  rw [hx, hy]
  unfold bnOp
  simp only
  split
  · exact (hb.1 rfl).elim
  · exact (hb.2 rfl).elim
  · exact ⟨trivial, r, hr, h⟩
theorem o_bin_sh {bo : BinOp} {u : Nat} {k k' : IntKind} {m m' : Int} {r : D} (hx : ev sl x = .d (.int k m)) (hy : ev sl y = .d (.int k' m')) (hr : shBin bo k m m' = some r) (h : K (.d r) o nk) : vOp P Θ (.binOp bo t x y u) ⟨sl, o, nk⟩ K := by
  show bnOp Θ o bo t (ev sl x) (ev sl y) (fun v => K v o nk)
  rw [hx, hy]
  cases bo <;> simp [shBin] at hr
  all_goals exact ⟨r, by simp [shBin, hr], h⟩
theorem o_bin_str {bo : BinOp} {u : Nat} {l l' : List UInt8} {r : D} (hx : ev sl x = .d (.str l)) (hy : ev sl y = .d (.str l')) (hr : strBin bo l l' = some r) (h : K (.d r) o nk) : vOp P Θ (.binOp bo t x y u) ⟨sl, o, nk⟩ K := by
  show bnOp Θ o bo t (ev sl x) (ev sl y) (fun v => K v o nk)
  rw [hx, hy]; exact ⟨r, hr, h⟩
theorem o_bin_eqb {i : TI} {u : Nat} {p q : Bool} (hx : ev sl x = .d (.bool p)) (hy : ev sl y = .d (.bool q)) (hi : Θ t = some i) (hk : i.k = .bool) (h : K (.d (.bool (p == q))) o nk) : vOp P Θ (.binOp .eql t x y u) ⟨sl, o, nk⟩ K := by
  show bnOp Θ o .eql t (ev sl x) (ev sl y) (fun v => K v o nk)
  rw [hx, hy]; exact ⟨⟨i, hi, hk⟩, h⟩
theorem o_bin_neb {i : TI} {u : Nat} {p q : Bool} (hx : ev sl x = .d (.bool p)) (hy : ev sl y = .d (.bool q)) (hi : Θ t = some i) (hk : i.k = .bool) (h : K (.d (.bool (!(p == q)))) o nk) : vOp P Θ (.binOp .neq t x y u) ⟨sl, o, nk⟩ K := by
  show bnOp Θ o .neq t (ev sl x) (ev sl y) (fun v => K v o nk)
  rw [hx, hy]; exact ⟨⟨i, hi, hk⟩, h⟩
theorem o_not {p : Bool} (hx : ev sl x = .d (.bool p)) (h : K (.d (.bool (!p))) o nk) : vOp P Θ (.unOp .not t x) ⟨sl, o, nk⟩ K := by
  refine ⟨.bool (!p), ?_, h⟩
  show unOpD .not (ev sl x) = _
  rw [hx]; rfl
theorem o_un {u : UnOp} {r : D} (hx : ev sl x = .d a) (hr : unOpD u (.d a) = some r) (h : K (.d r) o nk) : vOp P Θ (.unOp u t x) ⟨sl, o, nk⟩ K := by
  refine ⟨r, ?_, h⟩
  show unOpD u (ev sl x) = _
  rw [hx]; exact hr
theorem o_cv_int {i j : TI} {src dst : Nat} {k k' : IntKind} {m : Int} (hx : ev sl x = .d (.int k m)) (hi : Θ src = some i) (hj : Θ dst = some j) (hk : j.k = .int k') (h : K (.d (.int k' (k'.wrap m))) o nk) : vOp P Θ (.convert src dst x) ⟨sl, o, nk⟩ K := by
  show coOp Θ o src dst (ev sl x) (fun v => K v o nk)
  rw [hx]
  refine ⟨i, j, hi, hj, ?_⟩
  simp only [hk]; exact h
theorem o_cv_bytes {i j je : TI} {src dst : Nat} {l : List UInt8} (hx : ev sl x = .d (.str l)) (hi : Θ src = some i) (hik : i.k = .str) (hj : Θ dst = some j) (hk : j.k = .slice e) (he : Θ e = some je) (hek : je.k = .int .u8) (hle : l.length ≤ 9223372036854775807) (h : K (.d (.sl 1 (bytesD l))) o nk) : vOp P Θ (.convert src dst x) ⟨sl, o, nk⟩ K := by
  show coOp Θ o src dst (ev sl x) (fun v => K v o nk)
  rw [hx]
  refine ⟨i, j, hi, hj, hik, ?_⟩
  simp only [hk]; exact ⟨⟨je, he, hek⟩, hle, h⟩
theorem o_cv_str {i j : TI} {src dst : Nat} {l : List UInt8} (hx : ev sl x = .d (.str l)) (hi : Θ src = some i) (hik : i.k = .str) (hj : Θ dst = some j) (hk : j.k = .str) (h : K (.d (.str l)) o nk) : vOp P Θ (.convert src dst x) ⟨sl, o, nk⟩ K := by
  show coOp Θ o src dst (ev sl x) (fun v => K v o nk)
  rw [hx]
  refine ⟨i, j, hi, hj, hik, ?_⟩
  simp only [hk]; exact h
theorem o_mf {f : FuncId} {fs cs : Array Operand} {us vs : List SV} (h1 : fs.toList.map (ev sl) = us) (h2 : cs.toList.map (ev sl) = vs) (h : K (.clo f us vs) o nk) : vOp P Θ (.makeFunc (.func f) fs cs) ⟨sl, o, nk⟩ K := by
  subst h1; subst h2; exact h
theorem o_sl_str {i : TI} {l : List UInt8} {lo hi : Option Operand} {m p : Nat} (hx : ev sl x = .d (.str l)) (hi' : Θ t = some i) (hk : i.k = .str) (hh : bndO l.length l.length (hi.map (ev sl)) = some m) (hl : bndO m 0 (lo.map (ev sl)) = some p) (h : K (.d (.str ((l.take m).drop p))) o nk) : vOp P Θ (.slice t x lo hi none) ⟨sl, o, nk⟩ K := by
  show slOp Θ o nk t (ev sl x) _ _ _ _
  rw [hx]; exact ⟨⟨i, hi', hk⟩, rfl, m, p, hh, hl, h⟩
theorem o_sl_sl {i j : TI} {z : Nat} {xs : List D} {lo hi : Option Operand} {m p : Nat} (hx : ev sl x = .d (.sl z xs)) (hi' : Θ t = some i) (hk : i.k = .slice e) (hj : Θ e = some j) (hz : j.sz = z) (hh : bndO xs.length xs.length (hi.map (ev sl)) = some m) (hl : bndO m 0 (lo.map (ev sl)) = some p) (h : K (.d (.sl z ((xs.take m).drop p))) o nk) : vOp P Θ (.slice t x lo hi none) ⟨sl, o, nk⟩ K := by
  show slOp Θ o nk t (ev sl x) _ _ _ _
  rw [hx]; exact ⟨⟨i, e, j, hi', hk, hj, hz⟩, .inl rfl, xs.length, m, p, rfl, hh, hl, h⟩
theorem o_bs {n : Nat} {i j : TI} {l xs : List D} {ps : Array (Nat × Operand)} (hp : partsL j.sz 0 (ps.toList.map fun p => (p.1, ev sl p.2)) = some xs) (hi : Θ t = some i) (hk : i.k = .slice e) (hj : Θ e = some j) (hz : j.z = some l) (hl : l.length = j.sz) (hpos : 0 < j.sz) (hn : xs.length = n) (hs : n * j.sz ≤ 16777216) (hn0 : n ≠ 0) (h : K (.d (.sl j.sz xs)) o nk) : vOp P Θ (.buildSlice t n ps) ⟨sl, o, nk⟩ K :=
  ⟨i, e, j, l, xs, hi, hk, hj, hz, hl, hpos, hp, hn, hs, by rw [if_neg hn0]; exact h⟩
theorem o_bs0 {i j : TI} {l : List D} (hi : Θ t = some i) (hk : i.k = .slice e) (hj : Θ e = some j) (hz : j.z = some l) (hl : l.length = j.sz) (hpos : 0 < j.sz) (h : K (.row nk) (upd o nk (some (.row e j.sz []))) (nk + 1)) : vOp P Θ (.buildSlice t 0 #[]) ⟨sl, o, nk⟩ K :=
  ⟨i, e, j, l, [], hi, hk, hj, hz, hl, hpos, rfl, rfl, by omega, h⟩
theorem o_bu {i : TI} {fs : List (Nat × Nat)} {l ds : List D} {ps : Array (Nat × Operand)} (hfl : fillL (placeOf Θ fs) l (ps.toList.map fun p => (p.1, ev sl p.2)) = some ds) (hi : Θ t = some i) (hk : i.k = .struct fs) (hz : i.z = some l) (h : K (.d (.agg ds)) o nk) : vOp P Θ (.build t ps) ⟨sl, o, nk⟩ K :=
  ⟨i, fs, l, ds, hi, hk, hz, hfl, h⟩
theorem o_ap {i j : TI} {l xs ys : List D} {q : Option Nat} (hi : Θ t = some i) (hk : i.k = .slice e) (hj : Θ e = some j) (hz : j.z = some l) (hl : l.length = j.sz) (hpos : 0 < j.sz) (hd : dstOf o e j.sz (ev sl x) = some (q, xs)) (hns : ∀ b, ev sl y ≠ .d (.str b)) (hs : srcOf o j.sz (ev sl y) = some ys)
    (h63 : xs.length + ys.length ≤ 9223372036854775807) (hby : (xs.length + ys.length) * j.bys ≤ 140737488355328) (h : K (.row nk) (upd (killo o q) nk (some (.row e j.sz (xs ++ ys)))) (nk + 1)) : vOp P Θ (.call { callee := .builtin .append, args := #[x, y], argTypes := #[t, t] }) ⟨sl, o, nk⟩ K := by
  refine ⟨t, t, i, e, j, l, q, xs, ys, rfl, hi, hk, hj, hz, hl, hpos, hd, ?_, h63, hby, h⟩
  split
  · rename_i heq; exact (hns _ heq).elim
  · exact ⟨rfl, hs⟩
theorem o_ap_str {i j v : TI} {u : Nat} {xs : List D} {b : List UInt8} {q : Option Nat} (hy : ev sl y = .d (.str b)) (hi : Θ t = some i) (hk : i.k = .slice e) (hj : Θ e = some j) (hz : j = { k := .int .u8, sz := 1, bys := 1, z := some [.int .u8 0] }) (hu : Θ u = some v) (huk : v.k = .str) (hd : dstOf o e 1 (ev sl x) = some (q, xs))
    (h63 : xs.length + b.length ≤ 140737488355328) (h : K (.row nk) (upd (killo o q) nk (some (.row e 1 (xs ++ bytesD b)))) (nk + 1)) : vOp P Θ (.call { callee := .builtin .append, args := #[x, y], argTypes := #[t, u] }) ⟨sl, o, nk⟩ K := by
  subst hz
  have hlen : (bytesD b).length = b.length := by simp [bytesD]
  refine ⟨t, u, i, e, _, _, q, xs, bytesD b, rfl, hi, hk, hj, rfl, rfl, by decide, hd, ?_, by rw [hlen]; omega, by rw [hlen]; simpa using h63, h⟩
  simp only [hy]
  exact ⟨⟨v, hu, huk⟩, by simp [bytesD]⟩
theorem o_lookup {kt : Nat} {i j je : TI} {q : Nat} {ks : List (List UInt8)} {k : List UInt8} {m : Operand} (hm : ev sl m = .raw q) (hx : ev sl x = .d (.str k)) (hi : Θ t = some i) (hk : i.k = .map kt e) (hj : Θ kt = some j) (hjk : j.k = .str) (he : Θ e = some je) (hz : je.z = some [.bool false]) (hb : je.k = .bool) (hq : o q = some (.raw (setOb ks))) (h : K (.d (.bool (decide (k ∈ ks)))) o nk) : vOp P Θ (.lookup t m x false) ⟨sl, o, nk⟩ K :=
  ⟨rfl, kt, e, i, j, je, q, ks, k, hi, hk, hj, hjk, he, hz, hb, hm, hq, hx, h⟩
theorem o_ext {q : Nat} {xs : List SV} {c : SV} (hx : ev sl x = .tup xs) (hq : xs[q]? = some c) (h : K c o nk) : vOp P Θ (.extract x q) ⟨sl, o, nk⟩ K := ⟨xs, c, hx, hq, h⟩
theorem o_call {g : FuncId} {asx : Array Operand} {ts : Array Nat} {us : List SV} {Q : SV → (Nat → Option AO) → Nat → Prop} (hs : Spec P g us o nk Q) (ha : asx.toList.map (ev sl) = us) (h : ∀ r o' nk', Q r o' nk' → K r o' nk') : vOp P Θ (.call { callee := .value (.func g), args := asx, argTypes := ts }) ⟨sl, o, nk⟩ K := by
  subst ha
  refine ⟨g, [], [], rfl, ?_⟩
  rw [List.nil_append, List.append_nil]
  exact hs.mono h
theorem o_pcall {g : FuncId} {asx : Array Operand} {ts : Array Nat} {us : List SV} {r : SV} (hs : PSpec P g us r) (ha : asx.toList.map (ev sl) = us) (h : K r o nk) : vOp P Θ (.call { callee := .value (.func g), args := asx, argTypes := ts }) ⟨sl, o, nk⟩ K :=
  o_call (hs o nk) ha (by rintro r' o' nk' ⟨rfl, rfl, rfl⟩; exact h)
theorem o_pclo {g : FuncId} {fs cs : List SV} {asx : Array Operand} {ts : Array Nat} {us : List SV} {r : SV} (hx : ev sl x = .clo g fs cs) (hs : PSpec P g us r) (ha : fs ++ asx.toList.map (ev sl) ++ cs = us) (h : K r o nk) : vOp P Θ (.call { callee := .value x, args := asx, argTypes := ts }) ⟨sl, o, nk⟩ K := by
  subst ha
  refine ⟨g, fs, cs, hx, ?_⟩
  exact (hs o nk).mono (by rintro r' o' nk' ⟨rfl, rfl, rfl⟩; exact h)
end

theorem cond_of {P : Program} {n k0 : Nat} {Q : Exit → St → Prop} {s : St} {x : Operand} {c d : Code} {b : Bool} (hx : ev s.sl x = .d (.bool b)) (ht : b = true → WP P n k0 c s Q) (hf : b = false → WP P n k0 d s Q) : WP P n k0 (.cond x c d) s Q := WP.cond hx ht hf

/-! ### numbers -/
theorem wrap_i64 {m : Int} (h1 : -9223372036854775808 ≤ m) (h2 : m ≤ 9223372036854775807) : IntKind.i64.wrap m = m := by
  rw [IntKind.wrap_i64]; omega
end Go.Proofs.YtpkcbdhjnnnkbaaGreat.Abs

/- Steps that make or change objects: the objects told by what is known of them. -/
set_option linter.unusedVariables false
set_option linter.unusedSimpArgs false
namespace Go.Proofs.YtpkcbdhjnnnkbaaGreat.Abs
open Go

section
variable {P : Program} {Θ : Tab} {K : SV → (Nat → Option AO) → Nat → Prop} {sl : Nat → SV} {o : Nat → Option AO} {nk : Nat} {x y ix : Operand} {t e f : Nat} {a b : D}
theorem g_box {cs : List D} (hx : ev sl x = .d (.agg cs)) (h : ∀ o1, o1 nk = some (.box (cs.map .d)) → (∀ t, t ≠ nk → o1 t = o t) → K (.loc nk 0) o1 (nk + 1)) : vOp P Θ (.box e x) ⟨sl, o, nk⟩ K :=
  o_box_agg hx (h _ (upd_same _ _ _) fun _ ht => upd_ne _ _ ht)
theorem g_box1 (hx : ev sl x = .d a) (hl : a.leaf = true) (h : ∀ o1, o1 nk = some (.box [.d a]) → (∀ t, t ≠ nk → o1 t = o t) → K (.loc nk 0) o1 (nk + 1)) : vOp P Θ (.box e x) ⟨sl, o, nk⟩ K :=
  o_box_leaf hx hl (h _ (upd_same _ _ _) fun _ ht => upd_ne _ _ ht)
theorem g_alloc {i : TI} {l : List D} (hi : Θ e = some i) (hz : i.z = some l) (h : ∀ o1, o1 nk = some (.box (l.map .d)) → (∀ t, t ≠ nk → o1 t = o t) → K (.loc nk 0) o1 (nk + 1)) : vOp P Θ (.alloc e) ⟨sl, o, nk⟩ K :=
  o_alloc hi hz (h _ (upd_same _ _ _) fun _ ht => upd_ne _ _ ht)
theorem g_st {i : TI} {k g : Nat} {cs : List SV} (hx : ev sl x = .loc k g) (hy : ev sl y = .d a) (hl : a.leaf = true) (hi : Θ t = some i) (hs : i.sz = 1) (ho : o k = some (.box cs)) (hle : g < cs.length) (h : ∀ o1, o1 k = some (.box (cs.take g ++ [.d a] ++ cs.drop (g + 1))) → (∀ t, t ≠ k → o1 t = o t) → K .any o1 nk) : vOp P Θ (.store t x y) ⟨sl, o, nk⟩ K :=
  o_st_leaf hx hy hl hi hs ho hle (h _ (upd_same _ _ _) fun _ ht => upd_ne _ _ ht)
theorem g_sta {i : TI} {k g : Nat} {cs : List SV} {ds : List D} (hx : ev sl x = .loc k g) (hy : ev sl y = .d (.agg ds)) (hi : Θ t = some i) (hs : ds.length = i.sz) (ho : o k = some (.box cs)) (hle : g + ds.length ≤ cs.length) (h : ∀ o1, o1 k = some (.box (cs.take g ++ ds.map .d ++ cs.drop (g + ds.length))) → (∀ t, t ≠ k → o1 t = o t) → K .any o1 nk) : vOp P Θ (.store t x y) ⟨sl, o, nk⟩ K :=
  o_st_agg hx hy hi hs ho hle (h _ (upd_same _ _ _) fun _ ht => upd_ne _ _ ht)
theorem g_bs0 {i j : TI} {l : List D} (hi : Θ t = some i) (hk : i.k = .slice e) (hj : Θ e = some j) (hz : j.z = some l) (hl : l.length = j.sz) (hpos : 0 < j.sz) (h : ∀ o1, o1 nk = some (.row e j.sz []) → (∀ t, t ≠ nk → o1 t = o t) → K (.row nk) o1 (nk + 1)) : vOp P Θ (.buildSlice t 0 #[]) ⟨sl, o, nk⟩ K :=
  o_bs0 hi hk hj hz hl hpos (h _ (upd_same _ _ _) fun _ ht => upd_ne _ _ ht)
theorem g_range {i : TI} {l : List UInt8} (hx : ev sl x = .d (.str l)) (hi : Θ t = some i) (hk : i.k = .str) (h : ∀ o1, o1 nk = some (.raw (itOb l 0)) → (∀ t, t ≠ nk → o1 t = o t) → K (.raw nk) o1 (nk + 1)) : vOp P Θ (.range t x) ⟨sl, o, nk⟩ K :=
  ⟨i, l, hi, hk, hx, h _ (upd_same _ _ _) fun _ ht => upd_ne _ _ ht⟩
theorem g_next {l : List UInt8} {q pos : Nat} (hx : ev sl x = .raw q) (hq : o q = some (.raw (itOb l pos)))
    (h1 : pos < l.length → ∀ o1, o1 q = some (.raw (itOb l (pos + (Utf8.decode ⟨l.toArray⟩ pos).2))) → (∀ t, t ≠ q → o1 t = o t) → K (.tup [.d (.bool true), .d (.int .i64 pos), .d (.int .i32 (Utf8.decode ⟨l.toArray⟩ pos).1)]) o1 nk)
    (h2 : ¬ pos < l.length → K (.tup [.d (.bool false)]) o nk) : vOp P Θ (.next x true) ⟨sl, o, nk⟩ K := by
  refine ⟨rfl, q, l, pos, hx, hq, ?_⟩
  split
  · rename_i hp; exact h1 hp _ (upd_same _ _ _) fun _ ht => upd_ne _ _ ht
  · rename_i hp; exact h2 hp
theorem g_mm (h : ∀ o1, o1 nk = some (.raw (setOb [])) → (∀ t, t ≠ nk → o1 t = o t) → K (.raw nk) o1 (nk + 1)) : vOp P Θ (.makeMap t none) ⟨sl, o, nk⟩ K :=
  ⟨rfl, h _ (upd_same _ _ _) fun _ ht => upd_ne _ _ ht⟩
theorem g_mu {kt : Nat} {i j : TI} {q : Nat} {ks : List (List UInt8)} {k : List UInt8} {m : Operand} (hm : ev sl m = .raw q) (hx : ev sl x = .d (.str k)) (hy : ev sl y = .d (.bool true)) (hi : Θ t = some i) (hk : i.k = .map kt e) (hj : Θ kt = some j) (hjk : j.k = .str) (hq : o q = some (.raw (setOb ks))) (hin : k ∉ ks)
    (h : ∀ o1, o1 q = some (.raw (setOb (ks ++ [k]))) → (∀ t, t ≠ q → o1 t = o t) → K .any o1 nk) : vOp P Θ (.mapUpdate t m x y) ⟨sl, o, nk⟩ K :=
  ⟨kt, e, i, j, q, ks, k, hi, hk, hj, hjk, hm, hq, hx, hy, hin, h _ (upd_same _ _ _) fun _ ht => upd_ne _ _ ht⟩
theorem sl_nstr {z : Nat} {ys : List D} : ∀ b, (SV.d (.sl z ys)) ≠ .d (.str b) := by intro b h; cases h
theorem g_ap {i j : TI} {l xs ys : List D} {q z : Nat} (hx : ev sl x = .row q) (hy : ev sl y = .d (.sl z ys)) (hi : Θ t = some i) (hk : i.k = .slice e) (hj : Θ e = some j) (hz : j.z = some l) (hl : l.length = j.sz) (hpos : 0 < j.sz) (hzz : z = j.sz) (ho : o q = some (.row e j.sz xs))
    (h63 : xs.length + ys.length ≤ 9223372036854775807) (hby : (xs.length + ys.length) * j.bys ≤ 140737488355328) (h : ∀ o1, o1 nk = some (.row e j.sz (xs ++ ys)) → (∀ t, t ≠ nk → t ≠ q → o1 t = o t) → K (.row nk) o1 (nk + 1)) : vOp P Θ (.call { callee := .builtin .append, args := #[x, y], argTypes := #[t, t] }) ⟨sl, o, nk⟩ K := by
  refine o_ap (q := some q) hi hk hj hz hl hpos (by rw [hx]; simp [dstOf, ho]) (by rw [hy]; exact sl_nstr) (by rw [hy]; simp [srcOf, hzz]) h63 hby (h _ (upd_same _ _ _) fun u h1 h2 => ?_)
  rw [upd_ne _ _ h1]
  exact upd_ne _ _ h2
theorem g_apn {i j : TI} {l ys : List D} {z : Nat} (hx : ev sl x = .d .nil) (hy : ev sl y = .d (.sl z ys)) (hi : Θ t = some i) (hk : i.k = .slice e) (hj : Θ e = some j) (hz : j.z = some l) (hl : l.length = j.sz) (hpos : 0 < j.sz) (hzz : z = j.sz)
    (h63 : ys.length ≤ 9223372036854775807) (hby : ys.length * j.bys ≤ 140737488355328) (h : ∀ o1, o1 nk = some (.row e j.sz ys) → (∀ t, t ≠ nk → o1 t = o t) → K (.row nk) o1 (nk + 1)) : vOp P Θ (.call { callee := .builtin .append, args := #[x, y], argTypes := #[t, t] }) ⟨sl, o, nk⟩ K := by
  refine o_ap (q := none) (xs := []) (ys := ys) hi hk hj hz hl hpos (by rw [hx]; simp [dstOf]) (by rw [hy]; exact sl_nstr) (by rw [hy]; simp [srcOf, hzz]) (by simpa using h63) (by simpa using hby) (h _ (upd_same _ _ _) fun u h1 => upd_ne _ _ h1)
/-- Onto nothing or a row. -/
theorem g_apD {i j : TI} {l xs ys : List D} {q : Option Nat} {z : Nat} (hd : dstOf o e j.sz (ev sl x) = some (q, xs)) (hy : ev sl y = .d (.sl z ys)) (hi : Θ t = some i) (hk : i.k = .slice e) (hj : Θ e = some j) (hz : j.z = some l) (hl : l.length = j.sz) (hpos : 0 < j.sz) (hzz : z = j.sz)
    (h63 : xs.length + ys.length ≤ 9223372036854775807) (hby : (xs.length + ys.length) * j.bys ≤ 140737488355328) (h : ∀ o1, o1 nk = some (.row e j.sz (xs ++ ys)) → (∀ t, t ≠ nk → some t ≠ q → o1 t = o t) → K (.row nk) o1 (nk + 1)) : vOp P Θ (.call { callee := .builtin .append, args := #[x, y], argTypes := #[t, t] }) ⟨sl, o, nk⟩ K := by
  refine o_ap (q := q) hi hk hj hz hl hpos hd (by rw [hy]; exact sl_nstr) (by rw [hy]; simp [srcOf, hzz]) h63 hby (h _ (upd_same _ _ _) fun u h1 h2 => ?_)
  rw [upd_ne _ _ h1]
  cases q with
  | none => rfl
  | some v => exact upd_ne _ _ fun e => h2 (by rw [e])
theorem dst_row {e z q : Nat} {xs : List D} (h : o q = some (.row e z xs)) : dstOf o e z (.row q) = some (some q, xs) := by simp [dstOf, h]
/-- Onto a row, another row of the call's own. -/
theorem g_apr {i j : TI} {l xs ys : List D} {q q2 : Nat} (hx : ev sl x = .row q) (hy : ev sl y = .row q2) (hi : Θ t = some i) (hk : i.k = .slice e) (hj : Θ e = some j) (hz : j.z = some l) (hl : l.length = j.sz) (hpos : 0 < j.sz) (ho : o q = some (.row e j.sz xs)) (ho2 : o q2 = some (.row e j.sz ys))
    (h63 : xs.length + ys.length ≤ 9223372036854775807) (hby : (xs.length + ys.length) * j.bys ≤ 140737488355328) (h : ∀ o1, o1 nk = some (.row e j.sz (xs ++ ys)) → (∀ t, t ≠ nk → t ≠ q → o1 t = o t) → K (.row nk) o1 (nk + 1)) : vOp P Θ (.call { callee := .builtin .append, args := #[x, y], argTypes := #[t, t] }) ⟨sl, o, nk⟩ K := by
  refine o_ap (q := some q) hi hk hj hz hl hpos (by rw [hx]; simp [dstOf, ho]) (by rw [hy]; intro b h; cases h) (by rw [hy]; simp [srcOf, ho2]) h63 hby (h _ (upd_same _ _ _) fun u h1 h2 => ?_)
  rw [upd_ne _ _ h1]
  exact upd_ne _ _ h2
/-- Onto a row, a string. -/
theorem g_aps {i j v : TI} {u : Nat} {xs : List D} {b : List UInt8} {q : Nat} (hx : ev sl x = .row q) (hy : ev sl y = .d (.str b)) (hi : Θ t = some i) (hk : i.k = .slice e) (hj : Θ e = some j) (hz : j = { k := .int .u8, sz := 1, bys := 1, z := some [.int .u8 0] }) (hu : Θ u = some v) (huk : v.k = .str) (ho : o q = some (.row e 1 xs))
    (h63 : xs.length + b.length ≤ 140737488355328) (h : ∀ o1, o1 nk = some (.row e 1 (xs ++ bytesD b)) → (∀ t, t ≠ nk → t ≠ q → o1 t = o t) → K (.row nk) o1 (nk + 1)) : vOp P Θ (.call { callee := .builtin .append, args := #[x, y], argTypes := #[t, u] }) ⟨sl, o, nk⟩ K := by
  refine o_ap_str (q := some q) hy hi hk hj hz hu huk (by rw [hx]; simp [dstOf, ho]) h63 (h _ (upd_same _ _ _) fun u h1 h2 => ?_)
  rw [upd_ne _ _ h1]
  exact upd_ne _ _ h2
end

/-! ### nil in place of an empty slice -/
mutual
def D.le : D → D → Prop
  | .nil, .nil => True
  | .nil, .sl _ ys => ys = []
  | .sl z xs, .sl z' ys => z = z' ∧ D.les xs ys
  | .agg xs, .agg ys => D.les xs ys
  | .int k n, .int k' n' => k = k' ∧ n = n'
  | .bool b, .bool b' => b = b'
  | .str s, .str s' => s = s'
  | .nilp, .nilp => True
  | _, _ => False
def D.les : List D → List D → Prop
  | [], [] => True
  | x :: xs, y :: ys => D.le x y ∧ D.les xs ys
  | _, _ => False
end
mutual
theorem D.le_refl : ∀ x : D, D.le x x
  | .nil => by simp [D.le]
  | .sl z xs => by simp [D.le, D.les_refl xs]
  | .agg xs => by simp [D.le, D.les_refl xs]
  | .int k n => by simp [D.le]
  | .bool b => by simp [D.le]
  | .str s => by simp [D.le]
  | .nilp => by simp [D.le]
theorem D.les_refl : ∀ xs : List D, D.les xs xs
  | [] => by simp [D.les]
  | x :: xs => by simp [D.les, D.le_refl x, D.les_refl xs]
end
theorem D.les_length : ∀ {xs ys : List D}, D.les xs ys → xs.length = ys.length
  | [], [], _ => rfl
  | x :: xs, y :: ys, h => by simp only [D.les] at h; simp [D.les_length h.2]
  | [], y :: ys, h => by simp [D.les] at h
  | x :: xs, [], h => by simp [D.les] at h
theorem D.les_get : ∀ {xs ys : List D}, D.les xs ys → ∀ (i : Nat) (y : D), ys[i]? = some y → ∃ x, xs[i]? = some x ∧ D.le x y
  | [], [], _, i, y, h => by simp at h
  | x :: xs, y0 :: ys, h, 0, y, hy => by
    simp only [D.les] at h
    simp only [List.getElem?_cons_zero, Option.some.injEq] at hy
    subst hy
    exact ⟨x, rfl, h.1⟩
  | x :: xs, y0 :: ys, h, i + 1, y, hy => by
    simp only [D.les] at h
    exact D.les_get h.2 i y (by simpa using hy)
  | [], y :: ys, h, _, _, _ => by simp [D.les] at h
  | x :: xs, [], h, _, _, _ => by simp [D.les] at h
theorem D.le_leaf {x y : D} (h : D.le x y) : x.leaf = y.leaf := by
  cases x <;> cases y <;> simp_all [D.le, D.leaf]
theorem D.les_leaf : ∀ {xs ys : List D}, D.les xs ys → xs.all D.leaf = true → ys.all D.leaf = true
  | [], [], _, _ => rfl
  | x :: xs, y :: ys, h, hl => by
    simp only [D.les] at h
    simp only [List.all_cons, Bool.and_eq_true] at hl ⊢
    exact ⟨by rw [← D.le_leaf h.1]; exact hl.1, D.les_leaf h.2 hl.2⟩
  | [], y :: ys, h, _ => by simp [D.les] at h
  | x :: xs, [], h, _ => by simp [D.les] at h
theorem Rd.le {w : World} {S : Nat → Prop} {x : D} {v : Value} (h : Rd w S x v) : ∀ {y : D}, D.le x y → Rd w S y v := by
  induction h with
  | int k n => intro y hy; cases y <;> simp [D.le] at hy; obtain ⟨rfl, rfl⟩ := hy; exact .int _ _
  | bool b => intro y hy; cases y <;> simp [D.le] at hy; subst hy; exact .bool _
  | str s hm => intro y hy; cases y <;> simp [D.le] at hy; subst hy; exact .str _ hm
  | nilp => intro y hy; cases y <;> simp [D.le] at hy; exact .nilp
  | nil =>
    intro y hy; cases y <;> simp [D.le] at hy
    · subst hy; exact .emp _ _ _ (by omega)
    · exact .nil
  | emp z A c hm =>
    intro y hy; cases y <;> simp [D.le] at hy
    obtain ⟨rfl, h2⟩ := hy
    have := D.les_length h2
    have : _ = ([] : List D) := List.eq_nil_of_length_eq_zero (by simpa using this.symm)
    subst this
    exact .emp _ _ _ hm
  | sl z xs a c vs hl hm hS hv hr hz hc ih =>
    intro y hy; cases y <;> simp [D.le] at hy
    rename_i z' ys
    obtain ⟨rfl, h2⟩ := hy
    have hlen := D.les_length h2
    rw [hlen]
    exact .sl _ ys a c vs (by omega) hm hS (by omega) (fun i y u h3 h4 => by
      obtain ⟨x, h5, h6⟩ := D.les_get h2 i y h3
      exact ih i x u h5 h4 h6) hz hc
  | agg xs vs hl hv hr ih =>
    intro y hy; cases y <;> simp [D.le] at hy
    rename_i ys
    have hlen := D.les_length hy
    exact .agg ys vs (D.les_leaf hy hl) (by omega) (fun i y u h3 h4 => by
      obtain ⟨x, h5, h6⟩ := D.les_get hy i y h3
      exact ih i x u h5 h4 h6)
def SV.le : SV → SV → Prop
  | .d x, .d y => D.le x y
  | a, b => a = b
theorem SR.le {w : World} {S : Nat → Prop} {γ : Nat → Value} {o : Nat → Option AO} {a b : SV} {v : Value} (h : SR w S γ o a v) (hl : a.le b) : SR w S γ o b v := by
  unfold SV.le at hl
  split at hl
  · cases h with
    | d _ _ hr => exact .d _ _ (hr.le hl)
  · exact hl ▸ h
def SV.les : List SV → List SV → Prop
  | [], [] => True
  | x :: xs, y :: ys => SV.le x y ∧ SV.les xs ys
  | _, _ => False
theorem SV.les_length : ∀ {xs ys : List SV}, SV.les xs ys → xs.length = ys.length
  | [], [], _ => rfl
  | x :: xs, y :: ys, h => by simp only [SV.les] at h; simp [SV.les_length h.2]
  | [], y :: ys, h => by simp [SV.les] at h
  | x :: xs, [], h => by simp [SV.les] at h
theorem SV.les_get : ∀ {xs ys : List SV}, SV.les xs ys → ∀ (i : Nat) (y : SV), ys[i]? = some y → ∃ x, xs[i]? = some x ∧ SV.le x y
  | [], [], _, i, y, h => by simp at h
  | x :: xs, y0 :: ys, h, 0, y, hy => by
    simp only [SV.les] at h
    simp only [List.getElem?_cons_zero, Option.some.injEq] at hy
    subst hy
    exact ⟨x, rfl, h.1⟩
  | x :: xs, y0 :: ys, h, i + 1, y, hy => by
    simp only [SV.les] at h
    exact SV.les_get h.2 i y (by simpa using hy)
  | [], y :: ys, h, _, _, _ => by simp [SV.les] at h
  | x :: xs, [], h, _, _, _ => by simp [SV.les] at h
theorem SV.le_lt {n : Nat} {a b : SV} (h : a.le b) (hl : a.lt n) : b.lt n := by
  unfold SV.le at h
  split at h
  · trivial
  · exact h ▸ hl
theorem Spec.le {P : Program} {f : FuncId} {args args' : List SV} {o : Nat → Option AO} {nk : Nat} {Q : SV → (Nat → Option AO) → Nat → Prop} (h : Spec P f args' o nk Q) (hl : SV.les args args') : Spec P f args o nk Q := fun w S γ vs h1 h2 h3 h4 => by
  refine h w S γ vs h1 (h2.trans (SV.les_length hl)) (fun i c v hc hv => ?_) (lts_of fun i c hc => ?_)
  · obtain ⟨x, h5, h6⟩ := SV.les_get hl i c hc
    exact (h3 i x v h5 hv).le h6
  · obtain ⟨x, h5, h6⟩ := SV.les_get hl i c hc
    exact SV.le_lt h6 (lts_get h4 i x h5)
theorem PSpec.le {P : Program} {f : FuncId} {args args' : List SV} {r : SV} (h : PSpec P f args' r) (hl : SV.les args args') : PSpec P f args r := fun o nk => (h o nk).le hl

/-! ### what is known of every datum: no list, no text is longer than can be -/
mutual
def D.bd : D → Prop
  | .sl _ xs => xs.length ≤ 9223372036854775807 ∧ D.bds xs
  | .agg xs => D.bds xs
  | .str s => s.length ≤ 9223372036854775807
  | .int _ _ => True
  | .bool _ => True
  | .nil => True
  | .nilp => True
def D.bds : List D → Prop
  | [] => True
  | x :: xs => D.bd x ∧ D.bds xs
end
theorem D.bds_of : ∀ {xs : List D}, (∀ x ∈ xs, D.bd x) → D.bds xs
  | [], _ => trivial
  | x :: xs, h => by
    simp only [D.bds]
    exact ⟨h x (by simp), D.bds_of fun y hy => h y (by simp [hy])⟩
theorem D.bds_mem : ∀ {xs : List D}, D.bds xs → ∀ x ∈ xs, D.bd x
  | [], _, x, h => by simp at h
  | y :: xs, hb, x, h => by
    simp only [D.bds] at hb
    rcases List.mem_cons.1 h with rfl | h
    · exact hb.1
    · exact D.bds_mem hb.2 x h
theorem Rd.bd {w : World} {S : Nat → Prop} {x : D} {v : Value} (h : Rd w S x v) : x.bd := by
  induction h with
  | int k n => trivial
  | bool b => trivial
  | str s hm => exact hm
  | nilp => trivial
  | nil => trivial
  | emp z A c hm => exact ⟨by simp, trivial⟩
  | sl z xs a c vs hl hm hS hv hr hz hc ih =>
    refine ⟨by omega, D.bds_of fun x hx => ?_⟩
    obtain ⟨i, hi⟩ := List.getElem?_of_mem hx
    have hlt : i < xs.length := (List.getElem?_eq_some_iff.1 hi).1
    exact ih i x (vs[i]'(by omega)) hi (List.getElem?_eq_getElem _)
  | agg xs vs hl hv hr ih =>
    refine D.bds_of fun x hx => ?_
    obtain ⟨i, hi⟩ := List.getElem?_of_mem hx
    have hlt : i < xs.length := (List.getElem?_eq_some_iff.1 hi).1
    exact ih i x (vs[i]'(by omega)) hi (List.getElem?_eq_getElem _)
def SV.bd : SV → Prop
  | .d x => x.bd
  | .el x => x.bd
  | _ => True
def SV.bds : List SV → Prop
  | [] => True
  | x :: xs => SV.bd x ∧ SV.bds xs
theorem SR.bd {w : World} {S : Nat → Prop} {γ : Nat → Value} {o : Nat → Option AO} {c : SV} {v : Value} (h : SR w S γ o c v) : c.bd := by
  cases h with
  | d _ _ hr => exact hr.bd
  | el _ _ _ _ hr => exact hr.bd
  | _ => trivial
theorem SV.bds_of : ∀ {xs : List SV}, (∀ (i : Nat) (c : SV), xs[i]? = some c → SV.bd c) → SV.bds xs
  | [], _ => trivial
  | x :: xs, h => ⟨h 0 x rfl, SV.bds_of fun i c hc => h (i + 1) c (by simpa using hc)⟩
theorem Spec.bd {P : Program} {f : FuncId} {args : List SV} {o : Nat → Option AO} {nk : Nat} {Q : SV → (Nat → Option AO) → Nat → Prop} (h : SV.bds args → Spec P f args o nk Q) : Spec P f args o nk Q := fun w S γ vs h1 h2 h3 h4 =>
  h (SV.bds_of fun i c hc => (h3 i c (vs[i]'(by have := (List.getElem?_eq_some_iff.1 hc).1; omega)) hc (List.getElem?_eq_getElem _)).bd) w S γ vs h1 h2 h3 h4
theorem PSpec.bd {P : Program} {f : FuncId} {args : List SV} {r : SV} (h : SV.bds args → PSpec P f args r) : PSpec P f args r := fun o nk => Spec.bd fun hb => h hb o nk
/-- What is in a slot is not too long. -/
theorem WP.bdS {P : Program} {n k0 : Nat} {Q : Exit → St → Prop} {c : Code} {sl : Nat → SV} {o : Nat → Option AO} {nk : Nat} (u : Nat) {y : D} (hx : sl u = .d y) (h : y.bd → WP P n k0 c ⟨sl, o, nk⟩ Q) : WP P n k0 c ⟨sl, o, nk⟩ Q := by
  intro E a w h1 h2 h3
  obtain ⟨S, γ, hr⟩ := h3
  have := (hr.sl u).bd
  simp only [hx] at this
  exact h this E a w h1 h2 ⟨S, γ, hr⟩

/-- It answers a row of its own. -/
def RSpec (P : Program) (f : FuncId) (args : List SV) (e z : Nat) (xs : List D) : Prop := ∀ (o : Nat → Option AO) (nk : Nat), Spec P f args o nk fun r o' nk' => ∃ q, r = .row q ∧ nk ≤ q ∧ q < nk' ∧ o' q = some (.row e z xs) ∧ ∀ t, t < nk → o' t = o t
theorem RSpec.of {P : Program} {f : FuncId} {n : Nat} {ts : List Nat} {c : Code} {args : List SV} {e z : Nat} {xs : List D} (hf : FnOk P f n ts c) (hn : args.length ≤ n)
    (h : ∀ o nk, WP P n nk c ⟨slots args, o, nk⟩ (retQ ts fun r o' nk' => ∃ q, r = .row q ∧ nk ≤ q ∧ q < nk' ∧ o' q = some (.row e z xs) ∧ ∀ t, t < nk → o' t = o t)) : RSpec P f args e z xs := fun o nk => Spec.of_body hf hn (h o nk)
theorem rrow_ok {ts : List Nat} {sl : Nat → SV} {o o0 : Nat → Option AO} {nk nk0 q e z : Nat} {xs : List D} (h1 : resOf ts ⟨sl, o, nk⟩ = .row q) (h2 : nk0 ≤ q) (h3 : q < nk) (h5 : o q = some (.row e z xs)) (h4 : ∀ t, t < nk0 → o t = o0 t) :
    retQ ts (fun r o' nk' => ∃ q, r = .row q ∧ nk0 ≤ q ∧ q < nk' ∧ o' q = some (.row e z xs) ∧ ∀ t, t < nk0 → o' t = o0 t) .ret ⟨sl, o, nk⟩ := ⟨q, h1, h2, h3, h5, h4⟩
theorem o_rcall {P : Program} {Θ : Tab} {K : SV → (Nat → Option AO) → Nat → Prop} {sl : Nat → SV} {o : Nat → Option AO} {nk : Nat} {g : FuncId} {asx : Array Operand} {ts : Array Nat} {us : List SV} {e z : Nat} {xs : List D} (hs : RSpec P g us e z xs) (ha : asx.toList.map (ev sl) = us)
    (h : ∀ q o1 nk1, nk ≤ q → q < nk1 → o1 q = some (.row e z xs) → (∀ t, t < nk → o1 t = o t) → K (.row q) o1 nk1) : vOp P Θ (.call { callee := .value (.func g), args := asx, argTypes := ts }) ⟨sl, o, nk⟩ K :=
  o_call (hs o nk) ha (by rintro r o1 nk1 ⟨q, rfl, h1, h2, h3, h4⟩; exact h q o1 nk1 h1 h2 h3 h4)

/-- It answers a row of its own, and a datum. -/
def RDSpec (P : Program) (f : FuncId) (args : List SV) (e z : Nat) (xs : List D) (d : D) : Prop := ∀ (o : Nat → Option AO) (nk : Nat), Spec P f args o nk fun r o' nk' => ∃ q, r = .tup [.row q, .d d] ∧ nk ≤ q ∧ q < nk' ∧ o' q = some (.row e z xs) ∧ ∀ t, t < nk → o' t = o t
theorem RDSpec.of {P : Program} {f : FuncId} {n : Nat} {ts : List Nat} {c : Code} {args : List SV} {e z : Nat} {xs : List D} {d : D} (hf : FnOk P f n ts c) (hn : args.length ≤ n)
    (h : ∀ o nk, WP P n nk c ⟨slots args, o, nk⟩ (retQ ts fun r o' nk' => ∃ q, r = .tup [.row q, .d d] ∧ nk ≤ q ∧ q < nk' ∧ o' q = some (.row e z xs) ∧ ∀ t, t < nk → o' t = o t)) : RDSpec P f args e z xs d := fun o nk => Spec.of_body hf hn (h o nk)
theorem rrowd_ok {ts : List Nat} {sl : Nat → SV} {o o0 : Nat → Option AO} {nk nk0 q e z : Nat} {xs : List D} {d d' : D} (h1 : resOf ts ⟨sl, o, nk⟩ = .tup [.row q, .d d']) (hd : d' = d) (h2 : nk0 ≤ q) (h3 : q < nk) (h5 : o q = some (.row e z xs)) (h4 : ∀ t, t < nk0 → o t = o0 t) :
    retQ ts (fun r o' nk' => ∃ q, r = .tup [.row q, .d d] ∧ nk0 ≤ q ∧ q < nk' ∧ o' q = some (.row e z xs) ∧ ∀ t, t < nk0 → o' t = o0 t) .ret ⟨sl, o, nk⟩ := ⟨q, by rw [h1, hd], h2, h3, h5, h4⟩
theorem o_rdcall {P : Program} {Θ : Tab} {K : SV → (Nat → Option AO) → Nat → Prop} {sl : Nat → SV} {o : Nat → Option AO} {nk : Nat} {g : FuncId} {asx : Array Operand} {ts : Array Nat} {us : List SV} {e z : Nat} {xs : List D} {d : D} (hs : RDSpec P g us e z xs d) (ha : asx.toList.map (ev sl) = us)
    (h : ∀ q o1 nk1, nk ≤ q → q < nk1 → o1 q = some (.row e z xs) → (∀ t, t < nk → o1 t = o t) → K (.tup [.row q, .d d]) o1 nk1) : vOp P Θ (.call { callee := .value (.func g), args := asx, argTypes := ts }) ⟨sl, o, nk⟩ K :=
  o_call (hs o nk) ha (by rintro r o1 nk1 ⟨q, rfl, h1, h2, h3, h4⟩; exact h q o1 nk1 h1 h2 h3 h4)

/-! ### ends -/
theorem ret_ok {ts : List Nat} {sl : Nat → SV} {o o0 : Nat → Option AO} {nk nk0 : Nat} {x y : D} (h1 : resOf ts ⟨sl, o, nk⟩ = .d y) (h2 : y = x) (h3 : nk0 ≤ nk) (h4 : ∀ t, t < nk0 → o t = o0 t) :
    retQ ts (fun r o' nk' => r = .d x ∧ nk0 ≤ nk' ∧ ∀ t, t < nk0 → o' t = o0 t) .ret ⟨sl, o, nk⟩ := ⟨by rw [h1, h2], h3, h4⟩
theorem end_ok {ts : List Nat} {sl : Nat → SV} {o o0 : Nat → Option AO} {nk nk0 : Nat} {x y : D} (h1 : resOf ts ⟨sl, o, nk⟩ = .d y) (h2 : y = x) (h3 : nk0 ≤ nk) (h4 : ∀ t, t < nk0 → o t = o0 t) :
    retQ ts (fun r o' nk' => r = .d x ∧ nk0 ≤ nk' ∧ ∀ t, t < nk0 → o' t = o0 t) .normal ⟨sl, o, nk⟩ := ⟨by rw [h1, h2], h3, h4⟩
theorem wrap_succ {i : Nat} (h : i + 1 ≤ 9223372036854775807) : IntKind.i64.wrap ((i : Int) + 1) = ((i + 1 : Nat) : Int) := by
  rw [wrap_i64 (by omega) (by omega)]; omega
theorem cnt {i : Nat} (h : i + 1 ≤ 9223372036854775807) : SV.d (.int .i64 (IntKind.i64.wrap ((i : Int) + 1))) = SV.d (.int .i64 ((i + 1 : Nat) : Int)) := by rw [wrap_succ h]
theorem ia_get {α : Type} {xs : List α} {i : Nat} (h : i < xs.length) : xs[((i : Int)).toNat]? = some (xs[i]'h) := by simp [h]
theorem ia_map {α β : Type} {xs : List α} {f : α → β} {i : Nat} (h : i < xs.length) : (xs.map f)[((i : Int)).toNat]? = some (f (xs[i]'h)) := by simp [h]
end Go.Proofs.YtpkcbdhjnnnkbaaGreat.Abs

/- The program's data, typed; what its functions answer. -/
set_option linter.unusedVariables false
set_option linter.unusedSimpArgs false
namespace Go.Proofs.YtpkcbdhjnnnkbaaGreat.Abs
open Go

abbrev Str := List UInt8
inductive Val where
  | mk (kind int : Int) (text : Str) (items : List Val) (names : List Str)
def Val.kind : Val → Int | .mk k _ _ _ _ => k
def Val.int : Val → Int | .mk _ i _ _ _ => i
def Val.text : Val → Str | .mk _ _ t _ _ => t
def Val.items : Val → List Val | .mk _ _ _ xs _ => xs
def Val.names : Val → List Str | .mk _ _ _ _ ns => ns

mutual
def encV : Val → D
  | .mk k i t xs ns => .agg [.int .i64 k, .int .i64 i, .str t, .sl 5 (encVs xs), .sl 1 (ns.map .str)]
def encVs : List Val → List D
  | [] => []
  | x :: xs => encV x :: encVs xs
end
theorem encVs_map : ∀ xs, encVs xs = xs.map encV
  | [] => rfl
  | x :: xs => by rw [encVs, encVs_map xs]; rfl
theorem encV_leaf (v : Val) : (encV v).leaf = false := by cases v; rfl
theorem encV_width (v : Val) : (encV v).width = 5 := by cases v; rfl
theorem encVs_length (xs : List Val) : (encVs xs).length = xs.length := by rw [encVs_map]; simp
theorem ia_vs {xs : List Val} {i : Nat} (h : i < xs.length) : (encVs xs)[((i : Int)).toNat]? = some (encV (xs[i]'h)) := by rw [encVs_map]; exact ia_map h
theorem items_lt {k i t xs ns} {j : Nat} (h : j < xs.length) : SizeOf.sizeOf (xs[j]'h) < SizeOf.sizeOf (Val.mk k i t xs ns) := by
  have := List.sizeOf_lt_of_mem (List.getElem_mem h)
  simp only [Val.mk.sizeOf_spec]
  omega

section
variable {P : Program} {Θ : Tab} {K : SV → (Nat → Option AO) → Nat → Prop} {sl : Nat → SV} {o : Nat → Option AO} {nk : Nat} {x y ix : Operand} {t e f : Nat}
theorem o_sclo {g : FuncId} {fs cs : List SV} {asx : Array Operand} {ts : Array Nat} {us : List SV} {r : SV} (hx : ev sl x = .clo g fs cs) (hs : Spec P g us o nk fun r' o' nk' => r' = r ∧ o' = o ∧ nk' = nk) (ha : fs ++ asx.toList.map (ev sl) ++ cs = us) (h : K r o nk) : vOp P Θ (.call { callee := .value x, args := asx, argTypes := ts }) ⟨sl, o, nk⟩ K := by
  subst ha
  refine ⟨g, fs, cs, hx, ?_⟩
  exact hs.mono (by rintro r' o' nk' ⟨rfl, rfl, rfl⟩; exact h)
theorem o_scall {g : FuncId} {asx : Array Operand} {ts : Array Nat} {us : List SV} {r : SV} (hs : Spec P g us o nk fun r' o' nk' => r' = r ∧ o' = o ∧ nk' = nk) (ha : asx.toList.map (ev sl) = us) (h : K r o nk) : vOp P Θ (.call { callee := .value (.func g), args := asx, argTypes := ts }) ⟨sl, o, nk⟩ K :=
  o_call hs ha (by rintro r' o' nk' ⟨rfl, rfl, rfl⟩; exact h)
theorem o_ia_map {α : Type} {i j : TI} {z : Nat} {xs : List α} {g : α → D} {k : IntKind} {m : Nat} (hx : ev sl x = .d (.sl z (xs.map g))) (hy : ev sl ix = .d (.int k (m : Int))) (hi : Θ t = some i) (hk : i.k = .slice e) (hj : Θ e = some j) (hz : z = j.sz) (hlt : m < xs.length) (h : K (.el (g (xs[m]'hlt))) o nk) : vOp P Θ (.indexAddr t x ix) ⟨sl, o, nk⟩ K :=
  o_ia_sl hx hy hi hk hj hz (Int.natCast_nonneg _) (ia_map hlt) h
theorem o_ia_vs {i j : TI} {z : Nat} {xs : List Val} {k : IntKind} {m : Nat} (hx : ev sl x = .d (.sl z (encVs xs))) (hy : ev sl ix = .d (.int k (m : Int))) (hi : Θ t = some i) (hk : i.k = .slice e) (hj : Θ e = some j) (hz : z = j.sz) (hlt : m < xs.length) (h : K (.el (encV (xs[m]'hlt))) o nk) : vOp P Θ (.indexAddr t x ix) ⟨sl, o, nk⟩ K :=
  o_ia_sl hx hy hi hk hj hz (Int.natCast_nonneg _) (ia_vs hlt) h
end

theorem bnd_nat {y d m : Nat} {k : IntKind} (h : m ≤ y) : bndO y d (some (SV.d (.int k (m : Int)))) = some m := by
  show (if (0 : Int) ≤ (m : Int) ∧ (m : Int) ≤ (y : Int) then some (m : Int).toNat else none) = some m
  rw [if_pos ⟨by omega, by omega⟩]; simp

/-! ### short names, for the walks' own simp -/
section
variable {α β : Type} {p : Prop} [Decidable p] {a b : Bool} {m n : Nat}
theorem Q0 {f : α → β} {asx : List α} : (asx.map f).length = asx.length := List.length_map ..
theorem Q1 (xs : List Val) : (encVs xs).length = xs.length := encVs_length xs
theorem Q2 : (decide p = true) = p := decide_eq_true_eq
theorem Q3 : decide p = false ↔ ¬p := decide_eq_false_iff_not
theorem Q4 (b : Bool) : ((!b) = true) = (b = false) := Bool.not_eq_true' b
theorem Q5 (b : Bool) : ((!b) = false) = (b = true) := Bool.not_eq_false' b
theorem Q6 (b : Bool) : (!!b) = b := Bool.not_not b
theorem Q7 : (m : Int) < (n : Int) ↔ m < n := Int.ofNat_lt
theorem Q8 : (m : Int) ≤ (n : Int) ↔ m ≤ n := Int.ofNat_le
theorem Q9 (a b : Bool) : ((a && b) = true) = (a = true ∧ b = true) := Bool.and_eq_true a b
theorem Qa (a b : Bool) : ((a || b) = true) = (a = true ∨ b = true) := Bool.or_eq_true a b
theorem Qb (a b : Bool) : (a || b) = false ↔ a = false ∧ b = false := Bool.or_eq_false_iff
theorem Qc [BEq α] [LawfulBEq α] {x y : α} : (x == y) = true ↔ x = y := beq_iff_eq
theorem Qd [BEq α] [LawfulBEq α] {x y : α} : (x != y) = true ↔ x ≠ y := bne_iff_ne
end
/-! ### texts -/
theorem bAt_eq {l : Str} {i : Nat} (h : i < l.length) : bAt l i = ((l[i]'h).toNat : Int) := by simp [bAt, h]
theorem toNat_eq {c : UInt8} {n : Nat} (hn : n < 256) : ((c.toNat : Int) = (n : Int)) ↔ c = UInt8.ofNat n := by
  constructor
  · intro h
    have h1 : c.toNat = n := by omega
    rw [← h1]; simp
  · intro h
    subst h
    simp; omega

/-- A text that may be a name in a value. -/
def nameV (s : Str) : Bool := decide (1 ≤ s.length ∧ s.length ≤ 32 ∧ s[0]? ≠ some 36 ∧ (46 : UInt8) ∉ s)

theorem all_snoc {α : Type} {xs : List α} {p : α → Bool} {i : Nat} (h : i < xs.length) : (xs.take (i + 1)).all p = ((xs.take i).all p && p (xs[i]'h)) := by
  rw [List.take_succ_eq_append_getElem h, List.all_append, List.all_cons, List.all_nil, Bool.and_true]
theorem all_false {α : Type} {xs : List α} {p : α → Bool} {i : Nat} (h : i < xs.length) (hp : p (xs[i]'h) = false) : xs.all p = false := by
  rw [List.all_eq_false]; exact ⟨_, List.getElem_mem h, by simp [hp]⟩
theorem all_true {α : Type} {xs : List α} {p : α → Bool} {i : Nat} (h : ¬ i < xs.length) (hp : (xs.take i).all p = true) : xs.all p = true := by
  rwa [List.take_of_length_le (by omega)] at hp
theorem items_lt' {k i t xs ns m} {j : Nat} (h : j < xs.length) (hv : SizeOf.sizeOf (Val.mk k i t xs ns) < m + 1) : SizeOf.sizeOf (xs[j]'h) < m := by
  have := items_lt (k := k) (i := i) (t := t) (ns := ns) h; omega

def twiceV (ns : List Str) : Bool := !decide ns.Nodup
/-- What a value's own parts must be, by its kind. -/
def kindOk (k i : Int) (t : Str) (n : Nat) (ns : List Str) : Bool :=
  if k = 1 then decide (i = 0) && decide (t = []) && decide (n = 0) && decide (ns.length = 0)
  else if k = 2 then decide (0 ≤ i) && decide (i ≤ 1) && decide (t = []) && decide (n = 0) && decide (ns.length = 0)
  else if k = 3 then decide (t = []) && decide (n = 0) && decide (ns.length = 0)
  else if k = 4 ∨ k = 5 then decide (i = 0) && decide (n = 0) && decide (ns.length = 0)
  else if k = 6 then decide (i = 0) && decide (t = []) && decide (ns.length = 0)
  else if k = 7 then decide (i = 0) && decide (t = []) && decide (ns.length = n) && !twiceV ns
  else false
mutual
def mayV : Val → Bool
  | .mk k i t xs ns => maysV xs && ns.all nameV && kindOk k i t xs.length ns
def maysV : List Val → Bool
  | [] => true
  | x :: xs => mayV x && maysV xs
end
theorem maysV_all : ∀ xs, maysV xs = xs.all mayV
  | [] => rfl
  | x :: xs => by rw [maysV, maysV_all xs]; rfl
mutual
def depthV : Val → Nat
  | .mk _ _ _ xs _ => depthsV xs + 1
def depthsV : List Val → Nat
  | [] => 0
  | x :: xs => max (depthV x) (depthsV xs)
end
/-- Whether two values are the same. -/
noncomputable instance : DecidableEq Val := fun _ _ => Classical.propDecidable _
noncomputable def sameV (v w : Val) : Bool := decide (v = w)
def pathV (p : List Str) : Bool := p.all nameV && decide (1 ≤ p.length) && decide (p.length ≤ 8)
def beginsV (a b : List Str) : Bool := decide (a <+: b)

theorem twice_true {ns : List Str} {i j : Nat} (hi : i < ns.length) (hj : j < i) (e : ns[i]'hi = ns[j]'(by omega)) : twiceV ns = true := by
  unfold twiceV
  simp only [Bool.not_eq_true', decide_eq_false_iff_not]
  intro hn
  exact (List.pairwise_iff_getElem.1 hn) j i (by omega) hi hj e.symm
theorem twice_false {ns : List Str} (h : ∀ (a b : Nat) (ha : a < ns.length) (hb : b < ns.length), a < b → ns[a] ≠ ns[b]) : twiceV ns = false := by
  unfold twiceV
  simp only [Bool.not_eq_false', decide_eq_true_eq]
  exact List.pairwise_iff_getElem.2 fun i j hi hj hij => h i j hi hj hij

/-- The first place where p holds; -1 if there is none. -/
def firstI {α : Type} (p : α → Bool) (xs : List α) : Int := if xs.any p then (xs.findIdx p : Int) else -1
theorem firstI_at {α : Type} {p : α → Bool} {xs : List α} {i : Nat} (h : i < xs.length) (hp : p (xs[i]'h) = true) (hb : ∀ (j : Nat) (hj : j < xs.length), j < i → p (xs[j]'hj) = false) : firstI p xs = i := by
  have h1 : xs.any p = true := List.any_eq_true.2 ⟨_, List.getElem_mem h, hp⟩
  unfold firstI
  rw [if_pos h1]
  have : xs.findIdx p = i := (List.findIdx_eq h).2 ⟨hp, fun j hj => by simpa using hb j (by omega) hj⟩
  rw [this]
theorem firstI_none {α : Type} {p : α → Bool} {xs : List α} (hb : ∀ (j : Nat) (hj : j < xs.length), p (xs[j]'hj) = false) : firstI p xs = -1 := by
  unfold firstI
  rw [if_neg]
  rw [List.any_eq_true]
  rintro ⟨x, hx, hp⟩
  obtain ⟨j, hj, rfl⟩ := List.mem_iff_getElem.1 hx
  rw [hb j hj] at hp; cases hp
theorem firstI_nn {α : Type} (p : α → Bool) (xs : List α) : decide (0 ≤ firstI p xs) = xs.any p := by
  unfold firstI
  cases h : xs.any p <;> simp
structure Dlt where
  kind : Int
  path : List Str
  value : Val
  n : Int
def encD (d : Dlt) : D := .agg [.int .i64 d.kind, .sl 1 (d.path.map .str), .int .i64 d.value.kind, .int .i64 d.value.int, .str d.value.text, .sl 5 (encVs d.value.items), .sl 1 (d.value.names.map .str), .int .i64 d.n]

def namesV (ns : List Str) : Bool := ns.all nameV && !twiceV ns
theorem names_bad {ns : List Str} {i : Nat} (h : i < ns.length) (hb : (!nameV (ns[i]'h) || decide (ns[i]'h ∈ ns.take i)) = true) : namesV ns = false := by
  unfold namesV
  rw [Bool.or_eq_true] at hb
  rcases hb with hb | hb
  · rw [all_false h (by simpa using hb)]; rfl
  · have hm : ns[i]'h ∈ ns.take i := by simpa using hb
    obtain ⟨j, hj, he⟩ := List.mem_iff_getElem.1 hm
    have hji : j < i := by simp at hj; omega
    rw [List.getElem_take] at he
    rw [twice_true h hji he.symm]; simp
theorem names_good {ns : List Str} (h1 : ns.all nameV = true) (h2 : ns.Nodup) : namesV ns = true := by
  unfold namesV twiceV
  simp [h1, h2]
theorem nodup_snoc {ns : List Str} {i : Nat} (h : i < ns.length) (hn : (ns.take i).Nodup) (hb : ns[i]'h ∉ ns.take i) : (ns.take (i + 1)).Nodup := by
  rw [List.take_succ_eq_append_getElem h]
  rw [List.nodup_append]
  refine ⟨hn, by simp, ?_⟩
  intro a ha b hb' e
  simp only [List.mem_singleton] at hb'
  subst hb'; subst e; exact hb ha

/-- The groups of a number: seven bits each, the least first. -/
def grp (u : Nat) : Str := if h : u < 128 then [UInt8.ofNat u] else UInt8.ofNat (u % 128 + 128) :: grp (u / 128)
termination_by u
decreasing_by omega
theorem grp_lt {u : Nat} (h : u < 128) : grp u = [UInt8.ofNat u] := by rw [grp, dif_pos h]
theorem grp_ge {u : Nat} (h : ¬ u < 128) : grp u = UInt8.ofNat (u % 128 + 128) :: grp (u / 128) := by rw [grp, dif_neg h]
theorem grp_len (n : Nat) : ∀ u, u < 128 ^ n → 1 ≤ n → (grp u).length ≤ n := by
  induction n with
  | zero => intro u _ h; omega
  | succ n ih =>
    intro u hu _
    by_cases h : u < 128
    · rw [grp_lt h]; simp
    · rw [grp_ge h, List.length_cons]
      have hn : 1 ≤ n := by
        rcases Nat.eq_zero_or_pos n with rfl | h'
        · simp at hu; omega
        · exact h'
      have := ih (u / 128) (by rw [Nat.pow_succ] at hu; omega) hn
      omega
theorem wrap_u64 {m : Int} (h1 : 0 ≤ m) (h2 : m < 18446744073709551616) : IntKind.u64.wrap m = m := by
  simp only [IntKind.wrap, IntKind.bits, IntKind.signed]
  simp
  omega
theorem wrap_u8 (m : Int) : IntKind.u8.wrap m = m % 256 := by
  simp [IntKind.wrap, IntKind.bits, IntKind.signed]
theorem bytesD_snoc (l : Str) (c : UInt8) : bytesD l ++ [.int .u8 c.toNat] = bytesD (l ++ [c]) := by simp [bytesD]
theorem bytesD_length (l : Str) : (bytesD l).length = l.length := by simp [bytesD]

def valCells (v : Val) : List D := [.int .i64 v.kind, .int .i64 v.int, .str v.text, .sl 5 (encVs v.items), .sl 1 (v.names.map .str)]
theorem encV_eq (v : Val) : encV v = .agg (valCells v) := by cases v; rfl
theorem pv {P : Program} {f : FuncId} {v : Val} {r : SV} (h : PSpec P f [.d (encV v)] r) : PSpec P f [.d (.agg (valCells v))] r := encV_eq v ▸ h

/-- How much a value holds. -/
def szN : List Str → Nat
  | [] => 0
  | s :: r => s.length + 1 + szN r
mutual
def szV : Val → Nat
  | .mk _ _ t xs ns => 1 + t.length + szVs xs + szN ns
def szVs : List Val → Nat
  | [] => 0
  | x :: xs => szV x + szVs xs
end
theorem szV_pos (v : Val) : 1 ≤ szV v := by cases v; simp only [szV]; omega
theorem szVs_get : ∀ {xs : List Val} {j : Nat} (h : j < xs.length), szV (xs[j]'h) ≤ szVs xs
  | x :: xs, 0, _ => by simp [szVs]
  | x :: xs, j + 1, h => by
    have := szVs_get (xs := xs) (j := j) (by simpa using h)
    simp only [szVs, List.getElem_cons_succ]
    omega
theorem szVs_len : ∀ xs : List Val, xs.length ≤ szVs xs
  | [] => by simp
  | x :: xs => by
    have := szVs_len xs
    have := szV_pos x
    simp only [szVs, List.length_cons]
    omega
theorem szN_get : ∀ {xs : List Str} {j : Nat} (h : j < xs.length), (xs[j]'h).length ≤ szN xs
  | x :: xs, 0, _ => by simp [szN]; omega
  | x :: xs, j + 1, h => by
    have := szN_get (xs := xs) (j := j) (by simpa using h)
    simp only [szN, List.getElem_cons_succ]
    omega
theorem szN_len : ∀ xs : List Str, xs.length ≤ szN xs
  | [] => by simp
  | x :: xs => by
    have := szN_len xs
    simp only [szN, List.length_cons]
    omega
theorem depthsV_snoc : ∀ {xs : List Val} {i : Nat} (h : i < xs.length), depthsV (xs.take (i + 1)) = max (depthsV (xs.take i)) (depthV (xs[i]'h))
  | x :: xs, 0, _ => by simp [depthsV]
  | x :: xs, i + 1, h => by
    have := depthsV_snoc (xs := xs) (i := i) (by simpa using h)
    simp only [List.take_succ_cons, depthsV, this, List.getElem_cons_succ]
    omega
mutual
theorem depth_sz : ∀ v : Val, depthV v ≤ szV v
  | .mk k i t xs ns => by
    have := depths_sz xs
    simp only [depthV, szV]
    omega
theorem depths_sz : ∀ xs : List Val, depthsV xs ≤ szVs xs
  | [] => by simp [depthsV]
  | x :: xs => by
    have h1 := depth_sz x
    have h2 := depths_sz xs
    simp only [depthsV, szVs]
    omega
end
end Go.Proofs.YtpkcbdhjnnnkbaaGreat.Abs

set_option linter.unusedVariables false
set_option linter.unusedSimpArgs false
set_option maxRecDepth 10000
namespace Go.Proofs.YtpkcbdhjnnnkbaaGreat.Abs
open Go
theorem take_snoc {x : Str} {i : Nat} (h : i < x.length) : x.take (i + 1) = x.take i ++ [x[i]] := List.take_succ_eq_append_getElem h

theorem fn113 : FnOk Tryz.prog 113 27 [2] (bodyOf Tryz.f113) := ⟨Tryz.f113, Tryz.func113, by kernel_rfl, by decide, by kernel_rfl, by kernel_rfl⟩
theorem s113 (x : Str) : PSpec Tryz.prog 113 [.d (.str x)] (.d (.bool (nameV x))) := by
  refine PSpec.bd fun hbd => ?_
  have hx : x.length ≤ 9223372036854775807 := hbd.1
  refine PSpec.of fn113 (by simp) fun o nk => ?_
  refine WP.seq fun K1 hK1 => ?_
  refine WP.reg tabOk rfl ?_
  refine u_step (o_assign rfl ?_)
  refine u_nil ?_
  refine hK1 _ ?_
  refine WP.seq fun K2 hK2 => ?_
  refine WP.seq fun K3 hK3 => ?_
  refine WP.reg tabOk rfl ?_
  refine u_step (o_assign rfl ?_)
  refine u_nil ?_
  refine hK3 _ ?_
  refine WP.block ?_
  refine WP.loopL (ι := Nat) (fun i => ⟨al [(0, .d (.str x)), (3, .d (.int .i64 i))], o, nk⟩) (fun i => i ≤ x.length ∧ (46 : UInt8) ∉ x.take i) (fun i => x.length - i) (fun i hA => ?_) 0 ?_ ?_
  ·
    obtain ⟨h1, h2⟩ := hA
    refine WP.seq fun K4 hK4 => ?_
    refine WP.seq fun K5 hK5 => ?_
    refine WP.reg tabOk rfl ?_
    refine u_step (o_move rfl ?_)
    refine u_step (o_move rfl ?_)
    refine u_step (o_len_str rfl th9 rfl ?_)
    refine u_step (o_bin_int rfl rfl (by decide) rfl ?_)
    refine u_nil ?_
    refine hK5 _ ?_
    refine WP.cond rfl (fun hc6 => ?_) (fun hc6 => ?_)
    ·
      try simp only [Q0, Q1, Q2, Q3, Q4, Q5, Q6, Q7, Q8, ge_iff_le, gt_iff_lt] at hc6
      refine WP.skip ?_
      refine hK4 _ ?_
      refine WP.seq fun K7 hK7 => ?_
      refine WP.block ?_
      refine WP.seq fun K8 hK8 => ?_
      refine WP.reg tabOk rfl ?_
      refine u_step (o_move rfl ?_)
      refine u_step (o_move rfl ?_)
      refine u_step (o_ix rfl rfl th9 rfl ?_ ?_ ?_)
      · exact Int.natCast_nonneg _
      · simpa using hc6
      refine u_step (o_bin_int rfl rfl (by decide) rfl ?_)
      refine u_nil ?_
      refine hK8 _ ?_
      refine WP.cond rfl (fun hc9 => ?_) (fun hc9 => ?_)
      ·
        try simp only [Q0, Q1, Q2, Q3, Q4, Q5, Q6, Q7, Q8, ge_iff_le, gt_iff_lt] at hc9
        refine WP.seq fun K10 hK10 => ?_
        refine WP.reg tabOk rfl ?_
        refine u_step (o_assign rfl ?_)
        refine u_nil ?_
        refine hK10 _ ?_
        refine WP.ret ?_
        refine ret_ok rfl ?_ (by omega) (fun _ _ => rfl)
        -- ret 1
        have hlt : i < x.length := by simpa using hc6
        have he : x[i] = 46 := by
          rw [bAt_eq (by simpa using hlt)] at hc9
          simp only [Int.toNat_natCast, beq_iff_eq] at hc9
          exact (toNat_eq (n := 46) (by omega)).1 hc9
        have hm : (46 : UInt8) ∈ x := he ▸ List.getElem_mem hlt
        simp [nameV, hm]
      ·
        try simp only [Q0, Q1, Q2, Q3, Q4, Q5, Q6, Q7, Q8, ge_iff_le, gt_iff_lt] at hc9
        refine WP.skip ?_
        refine hK7 _ ?_
        refine WP.reg tabOk rfl ?_
        refine u_step (o_move rfl ?_)
        refine u_step (o_bin_int rfl rfl (by decide) rfl ?_)
        refine u_step (o_assign rfl ?_)
        refine u_nil ?_
        -- back
        have hlt : i < x.length := by omega
        have hne : x[i] ≠ 46 := fun e => by rw [bAt_eq (by simpa using hlt)] at hc9; simp [e] at hc9
        refine ⟨i + 1, ⟨by omega, ?_⟩, by omega, ?_⟩
        · rw [take_snoc hlt]; simp only [List.mem_append, List.mem_singleton, not_or]; exact ⟨h2, fun e => hne e.symm⟩
        · refine Le.al ?_
          simp only [List.forall_mem_cons]
          exact ⟨rfl, cnt (by omega), by simp⟩
    ·
      try simp only [Q0, Q1, Q2, Q3, Q4, Q5, Q6, Q7, Q8, ge_iff_le, gt_iff_lt] at hc6
      refine WP.exit ?_
      refine hK2 _ ?_
      refine WP.seq fun K11 hK11 => ?_
      refine WP.reg tabOk rfl ?_
      refine u_step (o_move rfl ?_)
      refine u_step (o_len_str rfl th9 rfl ?_)
      refine u_step (o_bin_int rfl rfl (by decide) rfl ?_)
      refine u_step (o_move rfl ?_)
      apply u_guard
      · exact GC.t _
      · intro hg
        refine o_move rfl ⟨rfl, rfl, rfl⟩
      apply u_guard
      · exact GC.t _
      · intro hg; try simp only [hg, cnd_true]; try simp only [hg, cnd_true, Bool.true_and]
        refine o_len_str rfl th9 rfl ⟨rfl, rfl, rfl⟩
      apply u_guard
      · exact GC.t _
      · intro hg; try simp only [hg, cnd_true]; try simp only [hg, cnd_true, Bool.true_and]
        refine o_bin_int rfl rfl (by decide) rfl ⟨rfl, rfl, rfl⟩
      refine u_step (o_pick_and rfl rfl rfl ?_)
      refine u_step (o_move rfl ?_)
      apply u_guard
      · exact GC.t _
      · intro hg
        refine o_move rfl ⟨rfl, rfl, rfl⟩
      apply u_guard
      · exact GC.t _
      · intro hg; try simp only [hg, cnd_true]; try simp only [hg, cnd_true, Bool.true_and]
        have hg2 := hg; try simp only [Q0, Q1, Q2, Q3, Q4, Q5, Q6, Q9, Qa, Qb, Qc, Qd] at hg2
        refine o_ix rfl rfl th9 rfl ?_ ?_ ⟨rfl, rfl, rfl⟩
        · decide
        · simp at hg ⊢; omega
      apply u_guard
      · exact GC.t _
      · intro hg; try simp only [hg, cnd_true]; try simp only [hg, cnd_true, Bool.true_and]
        refine o_bin_int rfl rfl (by decide) rfl ⟨rfl, rfl, rfl⟩
      refine u_step (o_pick_and rfl rfl rfl ?_)
      refine u_step (o_assign rfl ?_)
      refine u_nil ?_
      refine hK11 _ ?_
      refine WP.ret ?_
      refine ret_ok rfl ?_ (by omega) (fun _ _ => rfl)
      -- ret 2
      have hi : i = x.length := by omega
      subst hi
      rw [List.take_length] at h2
      refine congrArg D.bool ?_
      rw [Bool.eq_iff_iff]
      simp only [nameV, Bool.and_eq_true, decide_eq_true_eq, bne_iff_ne, ne_eq]
      by_cases h0 : 0 < x.length
      · rw [bAt_eq (by simpa using h0)]
        have h3 := toNat_eq (c := x[0]) (n := 36) (by omega)
        simp only [Int.toNat_zero, List.getElem?_eq_getElem h0, Option.some.injEq] at h3 ⊢
        have h4 : (36 : Int) = ((36 : Nat) : Int) := rfl
        rw [h4, h3]
        constructor
        · rintro ⟨⟨h5, h6⟩, h7⟩; exact ⟨by omega, by omega, h7, h2⟩
        · rintro ⟨h5, h6, h7, h8⟩; exact ⟨⟨by omega, by omega⟩, h7⟩
      · constructor
        · rintro ⟨⟨h5, h6⟩, h7⟩; omega
        · rintro ⟨h5, h6, h7, h8⟩; omega
  ·
    simp
  ·
    refine Le.al ?_
    simp only [List.forall_mem_cons]
    exact ⟨rfl, rfl, by simp⟩

end Go.Proofs.YtpkcbdhjnnnkbaaGreat.Abs

set_option linter.unusedVariables false
set_option linter.unusedSimpArgs false
set_option maxRecDepth 10000
namespace Go.Proofs.YtpkcbdhjnnnkbaaGreat.Abs
open Go

theorem fn58 : FnOk Tryz.prog 58 24 [2] (bodyOf Tryz.f58) := ⟨Tryz.f58, Tryz.func58, by kernel_rfl, by decide, by kernel_rfl, by kernel_rfl⟩
theorem s58 (ns : List Str) : PSpec Tryz.prog 58 [.d (.sl 1 (ns.map .str))] (.d (.bool (pathV ns))) := by
  refine PSpec.bd fun hbd => ?_
  have hx : ns.length ≤ 9223372036854775807 := by simpa using hbd.1.1
  refine PSpec.of fn58 (by simp) fun o nk => ?_
  refine WP.seq fun K1 hK1 => ?_
  refine WP.reg tabOk rfl ?_
  refine u_step (o_assign rfl ?_)
  refine u_nil ?_
  refine hK1 _ ?_
  refine WP.seq fun K2 hK2 => ?_
  refine WP.seq fun K3 hK3 => ?_
  refine WP.reg tabOk rfl ?_
  refine u_step (o_assign rfl ?_)
  refine u_nil ?_
  refine hK3 _ ?_
  refine WP.block ?_
  refine WP.loopL (ι := Nat) (fun i => ⟨al [(0, .d (.sl 1 (ns.map .str))), (3, .d (.int .i64 i))], o, nk⟩) (fun i => i ≤ ns.length ∧ (ns.take i).all nameV = true) (fun i => ns.length - i) (fun i hA => ?_) 0 ?_ ?_
  ·
    obtain ⟨hle_i, hin_i⟩ := hA
    refine WP.seq fun K4 hK4 => ?_
    refine WP.seq fun K5 hK5 => ?_
    refine WP.reg tabOk rfl ?_
    refine u_step (o_move rfl ?_)
    refine u_step (o_move rfl ?_)
    refine u_step (o_len_sl rfl th22 rfl ?_)
    refine u_step (o_bin_int rfl rfl (by decide) rfl ?_)
    refine u_nil ?_
    refine hK5 _ ?_
    refine WP.cond rfl (fun hc6 => ?_) (fun hc6 => ?_)
    ·
      try simp only [Q0, Q1, Q2, Q3, Q4, Q5, Q6, Q7, Q8, ge_iff_le, gt_iff_lt] at hc6
      refine WP.skip ?_
      refine hK4 _ ?_
      refine WP.seq fun K7 hK7 => ?_
      refine WP.block ?_
      refine WP.seq fun K8 hK8 => ?_
      refine WP.reg tabOk rfl ?_
      refine u_step (o_move rfl ?_)
      refine u_step (o_move rfl ?_)
      first | refine u_step (o_ia_map rfl rfl th22 rfl th9 rfl (by omega) ?_) | refine u_step (o_ia_vs rfl rfl th22 rfl th9 rfl (by omega) ?_)
      refine u_step (o_ld_el rfl th9 rfl rfl ?_)
      refine u_step (o_pcall (s113 _) rfl ?_)
      refine u_step (o_not rfl ?_)
      refine u_nil ?_
      refine hK8 _ ?_
      refine WP.cond rfl (fun hc9 => ?_) (fun hc9 => ?_)
      ·
        try simp only [Q0, Q1, Q2, Q3, Q4, Q5, Q6, Q7, Q8, ge_iff_le, gt_iff_lt] at hc9
        refine WP.seq fun K10 hK10 => ?_
        refine WP.reg tabOk rfl ?_
        refine u_step (o_assign rfl ?_)
        refine u_nil ?_
        refine hK10 _ ?_
        refine WP.ret ?_
        refine ret_ok rfl ?_ (by omega) (fun _ _ => rfl)
        -- ret 1
        have h1 := all_false (p := nameV) (by omega : i < ns.length) hc9
        simp [pathV, h1]
      ·
        try simp only [Q0, Q1, Q2, Q3, Q4, Q5, Q6, Q7, Q8, ge_iff_le, gt_iff_lt] at hc9
        refine WP.skip ?_
        refine hK7 _ ?_
        refine WP.reg tabOk rfl ?_
        refine u_step (o_move rfl ?_)
        refine u_step (o_bin_int rfl rfl (by decide) rfl ?_)
        refine u_step (o_assign rfl ?_)
        refine u_nil ?_
        -- back
        refine ⟨i + 1, ⟨by omega, ?_⟩, by omega, ?_⟩
        · rw [all_snoc (by omega), hin_i, hc9]; rfl
        · refine Le.al ?_
          simp only [List.forall_mem_cons]
          exact ⟨rfl, cnt (by omega), by simp⟩
    ·
      try simp only [Q0, Q1, Q2, Q3, Q4, Q5, Q6, Q7, Q8, ge_iff_le, gt_iff_lt] at hc6
      refine WP.exit ?_
      refine hK2 _ ?_
      refine WP.seq fun K11 hK11 => ?_
      refine WP.reg tabOk rfl ?_
      refine u_step (o_move rfl ?_)
      refine u_step (o_len_sl rfl th22 rfl ?_)
      refine u_step (o_bin_int rfl rfl (by decide) rfl ?_)
      refine u_step (o_move rfl ?_)
      apply u_guard
      · exact GC.t _
      · intro hg
        refine o_move rfl ⟨rfl, rfl, rfl⟩
      apply u_guard
      · exact GC.t _
      · intro hg; try simp only [hg, cnd_true]; try simp only [hg, cnd_true, Bool.true_and]
        refine o_len_sl rfl th22 rfl ⟨rfl, rfl, rfl⟩
      apply u_guard
      · exact GC.t _
      · intro hg; try simp only [hg, cnd_true]; try simp only [hg, cnd_true, Bool.true_and]
        refine o_bin_int rfl rfl (by decide) rfl ⟨rfl, rfl, rfl⟩
      refine u_step (o_pick_and rfl rfl rfl ?_)
      refine u_step (o_assign rfl ?_)
      refine u_nil ?_
      refine hK11 _ ?_
      refine WP.ret ?_
      refine ret_ok rfl ?_ (by omega) (fun _ _ => rfl)
      -- ret 2
      have h1 := all_true hc6 hin_i
      refine congrArg D.bool ?_
      rw [Bool.eq_iff_iff]
      simp [pathV, h1]
      omega
  ·
    simp
  ·
    refine Le.al ?_
    simp only [List.forall_mem_cons]
    exact ⟨rfl, rfl, by simp⟩

theorem fn134 : FnOk Tryz.prog 134 25 [2] (bodyOf Tryz.f134) := ⟨Tryz.f134, Tryz.func134, by kernel_rfl, by decide, by kernel_rfl, by kernel_rfl⟩
theorem s134 (ns : List Str) : PSpec Tryz.prog 134 [.d (.sl 1 (ns.map .str))] (.d (.bool (twiceV ns))) := by
  refine PSpec.bd fun hbd => ?_
  have hx : ns.length ≤ 9223372036854775807 := by simpa using hbd.1.1
  refine PSpec.of fn134 (by simp) fun o nk => ?_
  refine WP.seq fun K1 hK1 => ?_
  refine WP.reg tabOk rfl ?_
  refine u_step (o_assign rfl ?_)
  refine u_nil ?_
  refine hK1 _ ?_
  refine WP.seq fun K2 hK2 => ?_
  refine WP.seq fun K3 hK3 => ?_
  refine WP.reg tabOk rfl ?_
  refine u_step (o_assign rfl ?_)
  refine u_nil ?_
  refine hK3 _ ?_
  refine WP.block ?_
  refine WP.loopL (ι := Nat) (fun i => ⟨al [(0, .d (.sl 1 (ns.map .str))), (3, .d (.int .i64 i))], o, nk⟩) (fun i => i ≤ ns.length ∧ ∀ (a b : Nat) (ha : a < ns.length) (hb : b < ns.length), a < b → b < i → ns[a] ≠ ns[b]) (fun i => ns.length - i) (fun i hA => ?_) 0 ?_ ?_
  ·
    obtain ⟨hle_i, hin_i⟩ := hA
    refine WP.seq fun K4 hK4 => ?_
    refine WP.seq fun K5 hK5 => ?_
    refine WP.reg tabOk rfl ?_
    refine u_step (o_move rfl ?_)
    refine u_step (o_move rfl ?_)
    refine u_step (o_len_sl rfl th22 rfl ?_)
    refine u_step (o_bin_int rfl rfl (by decide) rfl ?_)
    refine u_nil ?_
    refine hK5 _ ?_
    refine WP.cond rfl (fun hc6 => ?_) (fun hc6 => ?_)
    ·
      try simp only [Q0, Q1, Q2, Q3, Q4, Q5, Q6, Q7, Q8, ge_iff_le, gt_iff_lt] at hc6
      refine WP.skip ?_
      refine hK4 _ ?_
      refine WP.seq fun K7 hK7 => ?_
      refine WP.block ?_
      refine WP.seq fun K8 hK8 => ?_
      refine WP.reg tabOk rfl ?_
      refine u_step (o_assign rfl ?_)
      refine u_nil ?_
      refine hK8 _ ?_
      refine WP.block ?_
      refine WP.loopL (ι := Nat) (fun j => ⟨al [(0, .d (.sl 1 (ns.map .str))), (3, .d (.int .i64 i)), (4, .d (.int .i64 j))], o, nk⟩) (fun j => j ≤ i ∧ ∀ (a : Nat) (ha : a < ns.length), a < j → ns[i] ≠ ns[a]) (fun j => i - j) (fun j hA => ?_) 0 ?_ ?_
      ·
        obtain ⟨hle_j, hin_j⟩ := hA
        refine WP.seq fun K9 hK9 => ?_
        refine WP.seq fun K10 hK10 => ?_
        refine WP.reg tabOk rfl ?_
        refine u_step (o_move rfl ?_)
        refine u_step (o_move rfl ?_)
        refine u_step (o_bin_int rfl rfl (by decide) rfl ?_)
        refine u_nil ?_
        refine hK10 _ ?_
        refine WP.cond rfl (fun hc11 => ?_) (fun hc11 => ?_)
        ·
          try simp only [Q0, Q1, Q2, Q3, Q4, Q5, Q6, Q7, Q8, ge_iff_le, gt_iff_lt] at hc11
          refine WP.skip ?_
          refine hK9 _ ?_
          refine WP.seq fun K12 hK12 => ?_
          refine WP.block ?_
          refine WP.seq fun K13 hK13 => ?_
          refine WP.drw tabOk (by kernel_rfl) rfl (by kernel_rfl) ?_
          refine d_step (o_move rfl ⟨rfl, rfl, rfl⟩) ?_
          refine d_step (o_move rfl ⟨rfl, rfl, rfl⟩) ?_
          first | refine d_step (o_ia_map rfl rfl th22 rfl th9 rfl (by omega) ⟨rfl, rfl, rfl⟩) ?_ | refine d_step (o_ia_vs rfl rfl th22 rfl th9 rfl (by omega) ⟨rfl, rfl, rfl⟩) ?_
          refine d_step (o_ld_el rfl th9 rfl rfl ⟨rfl, rfl, rfl⟩) ?_
          refine d_step (o_move rfl ⟨rfl, rfl, rfl⟩) ?_
          refine d_step (o_move rfl ⟨rfl, rfl, rfl⟩) ?_
          first | refine d_step (o_ia_map rfl rfl th22 rfl th9 rfl (by omega) ⟨rfl, rfl, rfl⟩) ?_ | refine d_step (o_ia_vs rfl rfl th22 rfl th9 rfl (by omega) ⟨rfl, rfl, rfl⟩) ?_
          refine d_step (o_ld_el rfl th9 rfl rfl ⟨rfl, rfl, rfl⟩) ?_
          refine d_step (o_bin_str rfl rfl rfl ⟨rfl, rfl, rfl⟩) ?_
          refine d_nil ?_
          refine hK13 _ ?_
          refine WP.cond rfl (fun hc14 => ?_) (fun hc14 => ?_)
          ·
            try simp only [Q0, Q1, Q2, Q3, Q4, Q5, Q6, Q7, Q8, ge_iff_le, gt_iff_lt] at hc14
            refine WP.seq fun K15 hK15 => ?_
            refine WP.reg tabOk rfl ?_
            refine u_step (o_assign rfl ?_)
            refine u_nil ?_
            refine hK15 _ ?_
            refine WP.ret ?_
            refine ret_ok rfl ?_ (by omega) (fun _ _ => rfl)
            -- ret 1
            rw [twice_true (by omega) hc11 hc14]
          ·
            try simp only [Q0, Q1, Q2, Q3, Q4, Q5, Q6, Q7, Q8, ge_iff_le, gt_iff_lt] at hc14
            refine WP.skip ?_
            refine hK12 _ ?_
            refine WP.reg tabOk rfl ?_
            refine u_step (o_move rfl ?_)
            refine u_step (o_bin_int rfl rfl (by decide) rfl ?_)
            refine u_step (o_assign rfl ?_)
            refine u_nil ?_
            -- back
            refine ⟨j + 1, ⟨by omega, ?_⟩, by omega, ?_⟩
            · intro a ha h1
              by_cases haj : a = j
              · subst haj; exact hc14
              · exact hin_j a ha (by omega)
            · refine Le.al ?_
              simp only [List.forall_mem_cons]
              exact ⟨rfl, rfl, cnt (by omega), by simp⟩
        ·
          try simp only [Q0, Q1, Q2, Q3, Q4, Q5, Q6, Q7, Q8, ge_iff_le, gt_iff_lt] at hc11
          refine WP.exit ?_
          refine hK7 _ ?_
          refine WP.reg tabOk rfl ?_
          refine u_step (o_move rfl ?_)
          refine u_step (o_bin_int rfl rfl (by decide) rfl ?_)
          refine u_step (o_assign rfl ?_)
          refine u_nil ?_
          -- back
          refine ⟨i + 1, ⟨by omega, ?_⟩, by omega, ?_⟩
          · intro a b ha hb h1 h2
            by_cases hbi : b = i
            · subst hbi; exact fun e => hin_j a ha (by omega) e.symm
            · exact hin_i a b ha hb h1 (by omega)
          · refine Le.al ?_
            simp only [List.forall_mem_cons]
            exact ⟨rfl, cnt (by omega), by simp⟩
      ·
        simp
      ·
        refine Le.al ?_
        simp only [List.forall_mem_cons]
        exact ⟨rfl, rfl, rfl, by simp⟩
    ·
      try simp only [Q0, Q1, Q2, Q3, Q4, Q5, Q6, Q7, Q8, ge_iff_le, gt_iff_lt] at hc6
      refine WP.exit ?_
      refine hK2 _ ?_
      refine WP.seq fun K16 hK16 => ?_
      refine WP.reg tabOk rfl ?_
      refine u_step (o_assign rfl ?_)
      refine u_nil ?_
      refine hK16 _ ?_
      refine WP.ret ?_
      refine ret_ok rfl ?_ (by omega) (fun _ _ => rfl)
      -- ret 2
      rw [twice_false fun a b ha hb h1 => hin_i a b ha hb h1 (by omega)]
  ·
    simp
  ·
    refine Le.al ?_
    simp only [List.forall_mem_cons]
    exact ⟨rfl, rfl, by simp⟩

theorem fn80 : FnOk Tryz.prog 80 146 [2] (bodyOf Tryz.f80) := ⟨Tryz.f80, Tryz.func80, by kernel_rfl, by decide, by kernel_rfl, by kernel_rfl⟩
theorem s80A (m : Nat) : ∀ v : Val, SizeOf.sizeOf v < m → PSpec Tryz.prog 80 [.d (encV v)] (.d (.bool (mayV v))) := by
  induction m with
  | zero => intros; omega
  | succ m ih =>
    rintro ⟨kd, it, tx, xs, ns⟩ hv
    refine PSpec.bd fun hbd => ?_
    have hx : xs.length ≤ 9223372036854775807 := by simpa [encVs_length] using hbd.1.2.2.2.1.1
    have hx2 : ns.length ≤ 9223372036854775807 := by simpa using hbd.1.2.2.2.2.1.1
    refine PSpec.of fn80 (by simp) fun o nk => ?_
    refine WP.seq fun K1 hK1 => ?_
    refine WP.reg tabOk rfl ?_
    refine u_step (g_box rfl fun o2 hb2 hk2 => ?_)
    refine u_step (o_assign rfl ?_)
    refine u_nil ?_
    refine hK1 _ ?_
    refine WP.seq fun K3 hK3 => ?_
    refine WP.seq fun K4 hK4 => ?_
    refine WP.reg tabOk rfl ?_
    refine u_step (o_assign rfl ?_)
    refine u_nil ?_
    refine hK4 _ ?_
    refine WP.block ?_
    refine WP.loopL (ι := Nat) (fun i => ⟨al [(1, .loc nk 0), (3, .d (.int .i64 i))], o2, (nk + 1)⟩) (fun i => i ≤ xs.length ∧ (xs.take i).all mayV = true) (fun i => xs.length - i) (fun i hA => ?_) 0 ?_ ?_
    ·
      obtain ⟨hle_i, hin_i⟩ := hA
      refine WP.seq fun K5 hK5 => ?_
      refine WP.seq fun K6 hK6 => ?_
      refine WP.reg tabOk rfl ?_
      refine u_step (o_move rfl ?_)
      refine u_step (o_fa_loc rfl th27 rfl rfl th25 (by decide) hb2 ?_)
      refine u_step (o_ld_loc rfl th25 rfl hb2 rfl ?_)
      refine u_step (o_len_sl rfl th25 rfl ?_)
      refine u_step (o_bin_int rfl rfl (by decide) rfl ?_)
      refine u_nil ?_
      refine hK6 _ ?_
      refine WP.cond rfl (fun hc7 => ?_) (fun hc7 => ?_)
      ·
        try simp only [Q0, Q1, Q2, Q3, Q4, Q5, Q6, Q7, Q8, ge_iff_le, gt_iff_lt] at hc7
        refine WP.skip ?_
        refine hK5 _ ?_
        refine WP.seq fun K8 hK8 => ?_
        refine WP.block ?_
        refine WP.seq fun K9 hK9 => ?_
        refine WP.reg tabOk rfl ?_
        refine u_step (o_fa_loc rfl th27 rfl rfl th25 (by decide) hb2 ?_)
        refine u_step (o_ld_loc rfl th25 rfl hb2 rfl ?_)
        refine u_step (o_move rfl ?_)
        first | refine u_step (o_ia_map rfl rfl th25 rfl th27 rfl (by omega) ?_) | refine u_step (o_ia_vs rfl rfl th25 rfl th27 rfl (by omega) ?_)
        refine u_step (o_ld_el rfl th27 (by first | rfl | simp only [encV_leaf, encV_width, Bool.not_true, TK.agg]) (by first | rfl | simp only [encV_leaf, encV_width, Bool.not_true, TK.agg]) ?_)
        refine u_step (o_pcall (ih _ (by exact items_lt' (by omega) hv)) rfl ?_)
        refine u_step (o_not rfl ?_)
        refine u_nil ?_
        refine hK9 _ ?_
        refine WP.cond rfl (fun hc10 => ?_) (fun hc10 => ?_)
        ·
          try simp only [Q0, Q1, Q2, Q3, Q4, Q5, Q6, Q7, Q8, ge_iff_le, gt_iff_lt] at hc10
          refine WP.seq fun K11 hK11 => ?_
          refine WP.reg tabOk rfl ?_
          refine u_step (o_assign rfl ?_)
          refine u_nil ?_
          refine hK11 _ ?_
          refine WP.ret ?_
          refine ret_ok rfl ?_ (by omega) (fun t ht => (hk2 t (by omega)))
          -- ret 1
          have h1 := all_false (p := mayV) (by omega : i < xs.length) hc10
          simp [mayV, maysV_all, h1]
        ·
          try simp only [Q0, Q1, Q2, Q3, Q4, Q5, Q6, Q7, Q8, ge_iff_le, gt_iff_lt] at hc10
          refine WP.skip ?_
          refine hK8 _ ?_
          refine WP.reg tabOk rfl ?_
          refine u_step (o_move rfl ?_)
          refine u_step (o_bin_int rfl rfl (by decide) rfl ?_)
          refine u_step (o_assign rfl ?_)
          refine u_nil ?_
          -- back
          refine ⟨i + 1, ⟨by omega, ?_⟩, by omega, ?_⟩
          · rw [all_snoc (by omega), hin_i]
            simp_all
          · refine Le.al ?_
            simp only [List.forall_mem_cons]
            exact ⟨rfl, cnt (by omega), by simp⟩
      ·
        try simp only [Q0, Q1, Q2, Q3, Q4, Q5, Q6, Q7, Q8, ge_iff_le, gt_iff_lt] at hc7
        refine WP.exit ?_
        refine hK3 _ ?_
        refine WP.seq fun K12 hK12 => ?_
        refine WP.seq fun K13 hK13 => ?_
        refine WP.reg tabOk rfl ?_
        refine u_step (o_assign rfl ?_)
        refine u_nil ?_
        refine hK13 _ ?_
        refine WP.block ?_
        refine WP.loopL (ι := Nat) (fun j => ⟨al [(1, .loc nk 0), (4, .d (.int .i64 j))], o2, (nk + 1)⟩) (fun j => j ≤ ns.length ∧ (ns.take j).all nameV = true) (fun j => ns.length - j) (fun j hA => ?_) 0 ?_ ?_
        ·
          obtain ⟨hle_j, hin_j⟩ := hA
          refine WP.seq fun K14 hK14 => ?_
          refine WP.seq fun K15 hK15 => ?_
          refine WP.reg tabOk rfl ?_
          refine u_step (o_move rfl ?_)
          refine u_step (o_fa_loc rfl th27 rfl rfl th22 (by decide) hb2 ?_)
          refine u_step (o_ld_loc rfl th22 rfl hb2 rfl ?_)
          refine u_step (o_len_sl rfl th22 rfl ?_)
          refine u_step (o_bin_int rfl rfl (by decide) rfl ?_)
          refine u_nil ?_
          refine hK15 _ ?_
          refine WP.cond rfl (fun hc16 => ?_) (fun hc16 => ?_)
          ·
            try simp only [Q0, Q1, Q2, Q3, Q4, Q5, Q6, Q7, Q8, ge_iff_le, gt_iff_lt] at hc16
            refine WP.skip ?_
            refine hK14 _ ?_
            refine WP.seq fun K17 hK17 => ?_
            refine WP.block ?_
            refine WP.seq fun K18 hK18 => ?_
            refine WP.reg tabOk rfl ?_
            refine u_step (o_fa_loc rfl th27 rfl rfl th22 (by decide) hb2 ?_)
            refine u_step (o_ld_loc rfl th22 rfl hb2 rfl ?_)
            refine u_step (o_move rfl ?_)
            first | refine u_step (o_ia_map rfl rfl th22 rfl th9 rfl (by omega) ?_) | refine u_step (o_ia_vs rfl rfl th22 rfl th9 rfl (by omega) ?_)
            refine u_step (o_ld_el rfl th9 (by first | rfl | simp only [encV_leaf, encV_width, Bool.not_true, TK.agg]) (by first | rfl | simp only [encV_leaf, encV_width, Bool.not_true, TK.agg]) ?_)
            refine u_step (o_pcall (s113 _) rfl ?_)
            refine u_step (o_not rfl ?_)
            refine u_nil ?_
            refine hK18 _ ?_
            refine WP.cond rfl (fun hc19 => ?_) (fun hc19 => ?_)
            ·
              try simp only [Q0, Q1, Q2, Q3, Q4, Q5, Q6, Q7, Q8, ge_iff_le, gt_iff_lt] at hc19
              refine WP.seq fun K20 hK20 => ?_
              refine WP.reg tabOk rfl ?_
              refine u_step (o_assign rfl ?_)
              refine u_nil ?_
              refine hK20 _ ?_
              refine WP.ret ?_
              refine ret_ok rfl ?_ (by omega) (fun t ht => (hk2 t (by omega)))
              -- ret 2
              have h1 := all_false (p := nameV) (by omega : j < ns.length) hc19
              simp [mayV, h1]
            ·
              try simp only [Q0, Q1, Q2, Q3, Q4, Q5, Q6, Q7, Q8, ge_iff_le, gt_iff_lt] at hc19
              refine WP.skip ?_
              refine hK17 _ ?_
              refine WP.reg tabOk rfl ?_
              refine u_step (o_move rfl ?_)
              refine u_step (o_bin_int rfl rfl (by decide) rfl ?_)
              refine u_step (o_assign rfl ?_)
              refine u_nil ?_
              -- back
              refine ⟨j + 1, ⟨by omega, ?_⟩, by omega, ?_⟩
              · rw [all_snoc (by omega), hin_j]
                simp_all
              · refine Le.al ?_
                simp only [List.forall_mem_cons]
                exact ⟨rfl, cnt (by omega), by simp⟩
          ·
            try simp only [Q0, Q1, Q2, Q3, Q4, Q5, Q6, Q7, Q8, ge_iff_le, gt_iff_lt] at hc16
            refine WP.exit ?_
            refine hK12 _ ?_
            refine WP.seq fun K21 hK21 => ?_
            refine WP.drw tabOk (by kernel_rfl) rfl (by kernel_rfl) ?_
            refine d_step (o_fa_loc rfl th27 rfl rfl th25 (by decide) hb2 ⟨rfl, rfl, rfl⟩) ?_
            refine d_step (o_ld_loc rfl th25 rfl hb2 rfl ⟨rfl, rfl, rfl⟩) ?_
            refine d_step (o_len_sl rfl th25 rfl ⟨rfl, rfl, rfl⟩) ?_
            refine d_step (o_fa_loc rfl th27 rfl rfl th22 (by decide) hb2 ⟨rfl, rfl, rfl⟩) ?_
            refine d_step (o_ld_loc rfl th22 rfl hb2 rfl ⟨rfl, rfl, rfl⟩) ?_
            refine d_step (o_len_sl rfl th22 rfl ⟨rfl, rfl, rfl⟩) ?_
            refine d_step (o_assign rfl ⟨rfl, rfl, rfl⟩) ?_
            refine d_step (o_assign rfl ⟨rfl, rfl, rfl⟩) ?_
            refine d_nil ?_
            refine hK21 _ ?_
            refine WP.seq fun K22 hK22 => ?_
            refine WP.seq fun K23 hK23 => ?_
            refine WP.reg tabOk rfl ?_
            refine u_step (o_fa_loc rfl th27 rfl rfl th3 (by decide) hb2 ?_)
            refine u_step (o_ld_loc rfl th3 rfl hb2 rfl ?_)
            refine u_nil ?_
            refine hK23 _ ?_
            refine WP.block ?_
            refine WP.seq fun K24 hK24 => ?_
            refine WP.reg tabOk rfl ?_
            refine u_step (o_bin_int rfl rfl (by decide) rfl ?_)
            refine u_step (o_assign rfl ?_)
            refine u_nil ?_
            refine hK24 _ ?_
            refine WP.cond rfl (fun hc25 => ?_) (fun hc25 => ?_)
            ·
              try simp only [Q0, Q1, Q2, Q3, Q4, Q5, Q6, Q7, Q8, ge_iff_le, gt_iff_lt] at hc25
              refine WP.seq fun K26 hK26 => ?_
              refine WP.reg tabOk rfl ?_
              refine u_step (o_fa_loc rfl th27 rfl rfl th3 (by decide) hb2 ?_)
              refine u_step (o_ld_loc rfl th3 rfl hb2 rfl ?_)
              refine u_step (o_bin_int rfl rfl (by decide) rfl ?_)
              refine u_step (o_move rfl ?_)
              apply u_guard
              · exact GC.t _
              · intro hg
                refine o_fa_loc rfl th27 rfl rfl th9 (by decide) hb2 ⟨rfl, rfl, rfl⟩
              apply u_guard
              · exact GC.t _
              · intro hg; try simp only [hg, cnd_true]; try simp only [hg, cnd_true, Bool.true_and]
                refine o_ld_loc rfl th9 rfl hb2 rfl ⟨rfl, rfl, rfl⟩
              apply u_guard
              · exact GC.t _
              · intro hg; try simp only [hg, cnd_true]; try simp only [hg, cnd_true, Bool.true_and]
                refine o_bin_str rfl (show _ = SV.d (.str []) from rfl) rfl ⟨rfl, rfl, rfl⟩
              refine u_step (o_pick_and rfl rfl rfl ?_)
              refine u_step (o_move rfl ?_)
              apply u_guard
              · exact GC.t _
              · intro hg
                refine o_move rfl ⟨rfl, rfl, rfl⟩
              apply u_guard
              · exact GC.t _
              · intro hg; try simp only [hg, cnd_true]; try simp only [hg, cnd_true, Bool.true_and]
                refine o_bin_int rfl rfl (by decide) rfl ⟨rfl, rfl, rfl⟩
              refine u_step (o_pick_and rfl rfl rfl ?_)
              refine u_step (o_move rfl ?_)
              apply u_guard
              · exact GC.t _
              · intro hg
                refine o_move rfl ⟨rfl, rfl, rfl⟩
              apply u_guard
              · exact GC.t _
              · intro hg; try simp only [hg, cnd_true]; try simp only [hg, cnd_true, Bool.true_and]
                refine o_bin_int rfl rfl (by decide) rfl ⟨rfl, rfl, rfl⟩
              refine u_step (o_pick_and rfl rfl rfl ?_)
              refine u_step (o_assign rfl ?_)
              refine u_nil ?_
              refine hK26 _ ?_
              refine WP.ret ?_
              refine ret_ok rfl ?_ (by omega) (fun t ht => (hk2 t (by omega)))
              -- ret 3
              have h1 := all_true (by omega) hin_i
              have h2 := all_true (by omega) hin_j
              refine congrArg D.bool ?_
              have e1 := encVs_length xs
              try simp only [beq_iff_eq, beq_eq_false_iff_ne] at hc7 hc16 hc25
              rw [Bool.eq_iff_iff]
              simp [mayV, maysV_all, h1, h2, kindOk, e1, hc7, hc16, hc25]
              try omega
            ·
              try simp only [Q0, Q1, Q2, Q3, Q4, Q5, Q6, Q7, Q8, ge_iff_le, gt_iff_lt] at hc25
              refine WP.seq fun K27 hK27 => ?_
              refine WP.reg tabOk rfl ?_
              refine u_step (o_bin_int rfl rfl (by decide) rfl ?_)
              refine u_step (o_assign rfl ?_)
              refine u_nil ?_
              refine hK27 _ ?_
              refine WP.cond rfl (fun hc28 => ?_) (fun hc28 => ?_)
              ·
                try simp only [Q0, Q1, Q2, Q3, Q4, Q5, Q6, Q7, Q8, ge_iff_le, gt_iff_lt] at hc28
                refine WP.seq fun K29 hK29 => ?_
                refine WP.reg tabOk rfl ?_
                refine u_step (o_fa_loc rfl th27 rfl rfl th3 (by decide) hb2 ?_)
                refine u_step (o_ld_loc rfl th3 rfl hb2 rfl ?_)
                refine u_step (o_bin_int rfl rfl (by decide) rfl ?_)
                refine u_step (o_move rfl ?_)
                apply u_guard
                · exact GC.t _
                · intro hg
                  refine o_fa_loc rfl th27 rfl rfl th3 (by decide) hb2 ⟨rfl, rfl, rfl⟩
                apply u_guard
                · exact GC.t _
                · intro hg; try simp only [hg, cnd_true]; try simp only [hg, cnd_true, Bool.true_and]
                  refine o_ld_loc rfl th3 rfl hb2 rfl ⟨rfl, rfl, rfl⟩
                apply u_guard
                · exact GC.t _
                · intro hg; try simp only [hg, cnd_true]; try simp only [hg, cnd_true, Bool.true_and]
                  refine o_bin_int rfl rfl (by decide) rfl ⟨rfl, rfl, rfl⟩
                refine u_step (o_pick_and rfl rfl rfl ?_)
                refine u_step (o_move rfl ?_)
                apply u_guard
                · exact GC.t _
                · intro hg
                  refine o_fa_loc rfl th27 rfl rfl th9 (by decide) hb2 ⟨rfl, rfl, rfl⟩
                apply u_guard
                · exact GC.t _
                · intro hg; try simp only [hg, cnd_true]; try simp only [hg, cnd_true, Bool.true_and]
                  refine o_ld_loc rfl th9 rfl hb2 rfl ⟨rfl, rfl, rfl⟩
                apply u_guard
                · exact GC.t _
                · intro hg; try simp only [hg, cnd_true]; try simp only [hg, cnd_true, Bool.true_and]
                  refine o_bin_str rfl (show _ = SV.d (.str []) from rfl) rfl ⟨rfl, rfl, rfl⟩
                refine u_step (o_pick_and rfl rfl rfl ?_)
                refine u_step (o_move rfl ?_)
                apply u_guard
                · exact GC.t _
                · intro hg
                  refine o_move rfl ⟨rfl, rfl, rfl⟩
                apply u_guard
                · exact GC.t _
                · intro hg; try simp only [hg, cnd_true]; try simp only [hg, cnd_true, Bool.true_and]
                  refine o_bin_int rfl rfl (by decide) rfl ⟨rfl, rfl, rfl⟩
                refine u_step (o_pick_and rfl rfl rfl ?_)
                refine u_step (o_move rfl ?_)
                apply u_guard
                · exact GC.t _
                · intro hg
                  refine o_move rfl ⟨rfl, rfl, rfl⟩
                apply u_guard
                · exact GC.t _
                · intro hg; try simp only [hg, cnd_true]; try simp only [hg, cnd_true, Bool.true_and]
                  refine o_bin_int rfl rfl (by decide) rfl ⟨rfl, rfl, rfl⟩
                refine u_step (o_pick_and rfl rfl rfl ?_)
                refine u_step (o_assign rfl ?_)
                refine u_nil ?_
                refine hK29 _ ?_
                refine WP.ret ?_
                refine ret_ok rfl ?_ (by omega) (fun t ht => (hk2 t (by omega)))
                -- ret 4
                have h1 := all_true (by omega) hin_i
                have h2 := all_true (by omega) hin_j
                refine congrArg D.bool ?_
                have e1 := encVs_length xs
                try simp only [beq_iff_eq, beq_eq_false_iff_ne] at hc7 hc16 hc25 hc28
                rw [Bool.eq_iff_iff]
                simp [mayV, maysV_all, h1, h2, kindOk, e1, hc7, hc16, hc25, hc28]
                try omega
              ·
                try simp only [Q0, Q1, Q2, Q3, Q4, Q5, Q6, Q7, Q8, ge_iff_le, gt_iff_lt] at hc28
                refine WP.seq fun K30 hK30 => ?_
                refine WP.reg tabOk rfl ?_
                refine u_step (o_bin_int rfl rfl (by decide) rfl ?_)
                refine u_step (o_assign rfl ?_)
                refine u_nil ?_
                refine hK30 _ ?_
                refine WP.cond rfl (fun hc31 => ?_) (fun hc31 => ?_)
                ·
                  try simp only [Q0, Q1, Q2, Q3, Q4, Q5, Q6, Q7, Q8, ge_iff_le, gt_iff_lt] at hc31
                  refine WP.seq fun K32 hK32 => ?_
                  refine WP.reg tabOk rfl ?_
                  refine u_step (o_fa_loc rfl th27 rfl rfl th9 (by decide) hb2 ?_)
                  refine u_step (o_ld_loc rfl th9 rfl hb2 rfl ?_)
                  refine u_step (o_bin_str rfl (show _ = SV.d (.str []) from rfl) rfl ?_)
                  refine u_step (o_move rfl ?_)
                  apply u_guard
                  · exact GC.t _
                  · intro hg
                    refine o_move rfl ⟨rfl, rfl, rfl⟩
                  apply u_guard
                  · exact GC.t _
                  · intro hg; try simp only [hg, cnd_true]; try simp only [hg, cnd_true, Bool.true_and]
                    refine o_bin_int rfl rfl (by decide) rfl ⟨rfl, rfl, rfl⟩
                  refine u_step (o_pick_and rfl rfl rfl ?_)
                  refine u_step (o_move rfl ?_)
                  apply u_guard
                  · exact GC.t _
                  · intro hg
                    refine o_move rfl ⟨rfl, rfl, rfl⟩
                  apply u_guard
                  · exact GC.t _
                  · intro hg; try simp only [hg, cnd_true]; try simp only [hg, cnd_true, Bool.true_and]
                    refine o_bin_int rfl rfl (by decide) rfl ⟨rfl, rfl, rfl⟩
                  refine u_step (o_pick_and rfl rfl rfl ?_)
                  refine u_step (o_assign rfl ?_)
                  refine u_nil ?_
                  refine hK32 _ ?_
                  refine WP.ret ?_
                  refine ret_ok rfl ?_ (by omega) (fun t ht => (hk2 t (by omega)))
                  -- ret 5
                  have h1 := all_true (by omega) hin_i
                  have h2 := all_true (by omega) hin_j
                  refine congrArg D.bool ?_
                  have e1 := encVs_length xs
                  try simp only [beq_iff_eq, beq_eq_false_iff_ne] at hc7 hc16 hc25 hc28 hc31
                  rw [Bool.eq_iff_iff]
                  simp [mayV, maysV_all, h1, h2, kindOk, e1, hc7, hc16, hc25, hc28, hc31]
                  try omega
                ·
                  try simp only [Q0, Q1, Q2, Q3, Q4, Q5, Q6, Q7, Q8, ge_iff_le, gt_iff_lt] at hc31
                  refine WP.seq fun K33 hK33 => ?_
                  refine WP.seq fun K34 hK34 => ?_
                  refine WP.reg tabOk rfl ?_
                  refine u_step (o_bin_int rfl rfl (by decide) rfl ?_)
                  refine u_step (o_assign rfl ?_)
                  refine u_nil ?_
                  refine hK34 _ ?_
                  refine WP.cond rfl (fun hc35 => ?_) (fun hc35 => ?_)
                  ·
                    try simp only [Q0, Q1, Q2, Q3, Q4, Q5, Q6, Q7, Q8, ge_iff_le, gt_iff_lt] at hc35
                    refine WP.skip ?_
                    refine hK33 _ ?_
                    refine WP.cond rfl (fun hc36 => ?_) (fun hc36 => ?_)
                    ·
                      try simp only [Q0, Q1, Q2, Q3, Q4, Q5, Q6, Q7, Q8, ge_iff_le, gt_iff_lt] at hc36
                      refine WP.seq fun K37 hK37 => ?_
                      refine WP.reg tabOk rfl ?_
                      refine u_step (o_fa_loc rfl th27 rfl rfl th3 (by decide) hb2 ?_)
                      refine u_step (o_ld_loc rfl th3 rfl hb2 rfl ?_)
                      refine u_step (o_bin_int rfl rfl (by decide) rfl ?_)
                      refine u_step (o_move rfl ?_)
                      apply u_guard
                      · exact GC.t _
                      · intro hg
                        refine o_move rfl ⟨rfl, rfl, rfl⟩
                      apply u_guard
                      · exact GC.t _
                      · intro hg; try simp only [hg, cnd_true]; try simp only [hg, cnd_true, Bool.true_and]
                        refine o_bin_int rfl rfl (by decide) rfl ⟨rfl, rfl, rfl⟩
                      refine u_step (o_pick_and rfl rfl rfl ?_)
                      refine u_step (o_move rfl ?_)
                      apply u_guard
                      · exact GC.t _
                      · intro hg
                        refine o_move rfl ⟨rfl, rfl, rfl⟩
                      apply u_guard
                      · exact GC.t _
                      · intro hg; try simp only [hg, cnd_true]; try simp only [hg, cnd_true, Bool.true_and]
                        refine o_bin_int rfl rfl (by decide) rfl ⟨rfl, rfl, rfl⟩
                      refine u_step (o_pick_and rfl rfl rfl ?_)
                      refine u_step (o_assign rfl ?_)
                      refine u_nil ?_
                      refine hK37 _ ?_
                      refine WP.ret ?_
                      refine ret_ok rfl ?_ (by omega) (fun t ht => (hk2 t (by omega)))
                      -- ret 6
                      have h1 := all_true (by omega) hin_i
                      have h2 := all_true (by omega) hin_j
                      refine congrArg D.bool ?_
                      have e1 := encVs_length xs
                      try simp only [beq_iff_eq, beq_eq_false_iff_ne] at hc7 hc16 hc25 hc28 hc31 hc35 hc36
                      rw [Bool.eq_iff_iff]
                      simp [mayV, maysV_all, h1, h2, kindOk, e1, hc7, hc16, hc25, hc28, hc31, hc35, hc36]
                      try omega
                    ·
                      try simp only [Q0, Q1, Q2, Q3, Q4, Q5, Q6, Q7, Q8, ge_iff_le, gt_iff_lt] at hc36
                      refine WP.seq fun K38 hK38 => ?_
                      refine WP.reg tabOk rfl ?_
                      refine u_step (o_bin_int rfl rfl (by decide) rfl ?_)
                      refine u_step (o_assign rfl ?_)
                      refine u_nil ?_
                      refine hK38 _ ?_
                      refine WP.cond rfl (fun hc39 => ?_) (fun hc39 => ?_)
                      ·
                        try simp only [Q0, Q1, Q2, Q3, Q4, Q5, Q6, Q7, Q8, ge_iff_le, gt_iff_lt] at hc39
                        refine WP.seq fun K40 hK40 => ?_
                        refine WP.reg tabOk rfl ?_
                        refine u_step (o_fa_loc rfl th27 rfl rfl th3 (by decide) hb2 ?_)
                        refine u_step (o_ld_loc rfl th3 rfl hb2 rfl ?_)
                        refine u_step (o_bin_int rfl rfl (by decide) rfl ?_)
                        refine u_step (o_move rfl ?_)
                        apply u_guard
                        · exact GC.t _
                        · intro hg
                          refine o_fa_loc rfl th27 rfl rfl th9 (by decide) hb2 ⟨rfl, rfl, rfl⟩
                        apply u_guard
                        · exact GC.t _
                        · intro hg; try simp only [hg, cnd_true]; try simp only [hg, cnd_true, Bool.true_and]
                          refine o_ld_loc rfl th9 rfl hb2 rfl ⟨rfl, rfl, rfl⟩
                        apply u_guard
                        · exact GC.t _
                        · intro hg; try simp only [hg, cnd_true]; try simp only [hg, cnd_true, Bool.true_and]
                          refine o_bin_str rfl (show _ = SV.d (.str []) from rfl) rfl ⟨rfl, rfl, rfl⟩
                        refine u_step (o_pick_and rfl rfl rfl ?_)
                        refine u_step (o_move rfl ?_)
                        apply u_guard
                        · exact GC.t _
                        · intro hg
                          refine o_move rfl ⟨rfl, rfl, rfl⟩
                        apply u_guard
                        · exact GC.t _
                        · intro hg; try simp only [hg, cnd_true]; try simp only [hg, cnd_true, Bool.true_and]
                          refine o_bin_int rfl rfl (by decide) rfl ⟨rfl, rfl, rfl⟩
                        refine u_step (o_pick_and rfl rfl rfl ?_)
                        refine u_step (o_assign rfl ?_)
                        refine u_nil ?_
                        refine hK40 _ ?_
                        refine WP.ret ?_
                        refine ret_ok rfl ?_ (by omega) (fun t ht => (hk2 t (by omega)))
                        -- ret 7
                        have h1 := all_true (by omega) hin_i
                        have h2 := all_true (by omega) hin_j
                        refine congrArg D.bool ?_
                        have e1 := encVs_length xs
                        try simp only [beq_iff_eq, beq_eq_false_iff_ne] at hc7 hc16 hc25 hc28 hc31 hc35 hc36 hc39
                        rw [Bool.eq_iff_iff]
                        simp [mayV, maysV_all, h1, h2, kindOk, e1, hc7, hc16, hc25, hc28, hc31, hc35, hc36, hc39]
                        try omega
                      ·
                        try simp only [Q0, Q1, Q2, Q3, Q4, Q5, Q6, Q7, Q8, ge_iff_le, gt_iff_lt] at hc39
                        refine WP.seq fun K41 hK41 => ?_
                        refine WP.reg tabOk rfl ?_
                        refine u_step (o_bin_int rfl rfl (by decide) rfl ?_)
                        refine u_step (o_assign rfl ?_)
                        refine u_nil ?_
                        refine hK41 _ ?_
                        refine WP.cond rfl (fun hc42 => ?_) (fun hc42 => ?_)
                        ·
                          try simp only [Q0, Q1, Q2, Q3, Q4, Q5, Q6, Q7, Q8, ge_iff_le, gt_iff_lt] at hc42
                          refine WP.seq fun K43 hK43 => ?_
                          refine WP.reg tabOk rfl ?_
                          refine u_step (o_fa_loc rfl th27 rfl rfl th3 (by decide) hb2 ?_)
                          refine u_step (o_ld_loc rfl th3 rfl hb2 rfl ?_)
                          refine u_step (o_bin_int rfl rfl (by decide) rfl ?_)
                          refine u_step (o_move rfl ?_)
                          apply u_guard
                          · exact GC.t _
                          · intro hg
                            refine o_fa_loc rfl th27 rfl rfl th9 (by decide) hb2 ⟨rfl, rfl, rfl⟩
                          apply u_guard
                          · exact GC.t _
                          · intro hg; try simp only [hg, cnd_true]; try simp only [hg, cnd_true, Bool.true_and]
                            refine o_ld_loc rfl th9 rfl hb2 rfl ⟨rfl, rfl, rfl⟩
                          apply u_guard
                          · exact GC.t _
                          · intro hg; try simp only [hg, cnd_true]; try simp only [hg, cnd_true, Bool.true_and]
                            refine o_bin_str rfl (show _ = SV.d (.str []) from rfl) rfl ⟨rfl, rfl, rfl⟩
                          refine u_step (o_pick_and rfl rfl rfl ?_)
                          refine u_step (o_move rfl ?_)
                          apply u_guard
                          · exact GC.t _
                          · intro hg
                            refine o_move rfl ⟨rfl, rfl, rfl⟩
                          apply u_guard
                          · exact GC.t _
                          · intro hg
                            refine o_move rfl ⟨rfl, rfl, rfl⟩
                          apply u_guard
                          · exact GC.t _
                          · intro hg; try simp only [hg, cnd_true]; try simp only [hg, cnd_true, Bool.true_and]
                            refine o_bin_int rfl rfl (by decide) rfl ⟨rfl, rfl, rfl⟩
                          refine u_step (o_pick_and rfl rfl rfl ?_)
                          refine u_step (o_move rfl ?_)
                          apply u_guard
                          · exact GC.t _
                          · intro hg
                            refine o_fa_loc rfl th27 rfl rfl th22 (by decide) hb2 ⟨rfl, rfl, rfl⟩
                          apply u_guard
                          · exact GC.t _
                          · intro hg; try simp only [hg, cnd_true]; try simp only [hg, cnd_true, Bool.true_and]
                            refine o_ld_loc rfl th22 rfl hb2 rfl ⟨rfl, rfl, rfl⟩
                          apply u_guard
                          · exact GC.t _
                          · intro hg; try simp only [hg, cnd_true]; try simp only [hg, cnd_true, Bool.true_and]
                            refine o_pcall (s134 _) rfl ⟨rfl, rfl, rfl⟩
                          apply u_guard
                          · exact GC.t _
                          · intro hg; try simp only [hg, cnd_true]; try simp only [hg, cnd_true, Bool.true_and]
                            refine o_not rfl ⟨rfl, rfl, rfl⟩
                          refine u_step (o_pick_and rfl rfl rfl ?_)
                          refine u_step (o_assign rfl ?_)
                          refine u_nil ?_
                          refine hK43 _ ?_
                          refine WP.ret ?_
                          refine ret_ok rfl ?_ (by omega) (fun t ht => (hk2 t (by omega)))
                          -- ret 8
                          have h1 := all_true (by omega) hin_i
                          have h2 := all_true (by omega) hin_j
                          refine congrArg D.bool ?_
                          have e1 := encVs_length xs
                          try simp only [beq_iff_eq, beq_eq_false_iff_ne] at hc7 hc16 hc25 hc28 hc31 hc35 hc36 hc39 hc42
                          rw [Bool.eq_iff_iff]
                          simp [mayV, maysV_all, h1, h2, kindOk, e1, hc7, hc16, hc25, hc28, hc31, hc35, hc36, hc39, hc42]
                          try omega
                        ·
                          try simp only [Q0, Q1, Q2, Q3, Q4, Q5, Q6, Q7, Q8, ge_iff_le, gt_iff_lt] at hc42
                          refine WP.skip ?_
                          refine hK22 _ ?_
                          refine WP.seq fun K44 hK44 => ?_
                          refine WP.reg tabOk rfl ?_
                          refine u_step (o_assign rfl ?_)
                          refine u_nil ?_
                          refine hK44 _ ?_
                          refine WP.ret ?_
                          refine ret_ok rfl ?_ (by omega) (fun t ht => (hk2 t (by omega)))
                          -- ret 9
                          have h1 := all_true (by omega) hin_i
                          have h2 := all_true (by omega) hin_j
                          refine congrArg D.bool ?_
                          have e1 := encVs_length xs
                          try simp only [beq_iff_eq, beq_eq_false_iff_ne] at hc7 hc16 hc25 hc28 hc31 hc35 hc36 hc39 hc42
                          rw [Bool.eq_iff_iff]
                          simp [mayV, maysV_all, h1, h2, kindOk, e1, hc7, hc16, hc25, hc28, hc31, hc35, hc36, hc39, hc42]
                          try omega
                  ·
                    try simp only [Q0, Q1, Q2, Q3, Q4, Q5, Q6, Q7, Q8, ge_iff_le, gt_iff_lt] at hc35
                    refine WP.reg tabOk rfl ?_
                    refine u_step (o_bin_int rfl rfl (by decide) rfl ?_)
                    refine u_step (o_assign rfl ?_)
                    refine u_nil ?_
                    refine hK33 _ ?_
                    refine WP.cond rfl (fun hc45 => ?_) (fun hc45 => ?_)
                    ·
                      try simp only [Q0, Q1, Q2, Q3, Q4, Q5, Q6, Q7, Q8, ge_iff_le, gt_iff_lt] at hc45
                      refine WP.seq fun K46 hK46 => ?_
                      refine WP.reg tabOk rfl ?_
                      refine u_step (o_fa_loc rfl th27 rfl rfl th3 (by decide) hb2 ?_)
                      refine u_step (o_ld_loc rfl th3 rfl hb2 rfl ?_)
                      refine u_step (o_bin_int rfl rfl (by decide) rfl ?_)
                      refine u_step (o_move rfl ?_)
                      apply u_guard
                      · exact GC.t _
                      · intro hg
                        refine o_move rfl ⟨rfl, rfl, rfl⟩
                      apply u_guard
                      · exact GC.t _
                      · intro hg; try simp only [hg, cnd_true]; try simp only [hg, cnd_true, Bool.true_and]
                        refine o_bin_int rfl rfl (by decide) rfl ⟨rfl, rfl, rfl⟩
                      refine u_step (o_pick_and rfl rfl rfl ?_)
                      refine u_step (o_move rfl ?_)
                      apply u_guard
                      · exact GC.t _
                      · intro hg
                        refine o_move rfl ⟨rfl, rfl, rfl⟩
                      apply u_guard
                      · exact GC.t _
                      · intro hg; try simp only [hg, cnd_true]; try simp only [hg, cnd_true, Bool.true_and]
                        refine o_bin_int rfl rfl (by decide) rfl ⟨rfl, rfl, rfl⟩
                      refine u_step (o_pick_and rfl rfl rfl ?_)
                      refine u_step (o_assign rfl ?_)
                      refine u_nil ?_
                      refine hK46 _ ?_
                      refine WP.ret ?_
                      refine ret_ok rfl ?_ (by omega) (fun t ht => (hk2 t (by omega)))
                      -- ret 10
                      have h1 := all_true (by omega) hin_i
                      have h2 := all_true (by omega) hin_j
                      refine congrArg D.bool ?_
                      have e1 := encVs_length xs
                      try simp only [beq_iff_eq, beq_eq_false_iff_ne] at hc7 hc16 hc25 hc28 hc31 hc35 hc45
                      rw [Bool.eq_iff_iff]
                      simp [mayV, maysV_all, h1, h2, kindOk, e1, hc7, hc16, hc25, hc28, hc31, hc35, hc45]
                      try omega
                    ·
                      try simp only [Q0, Q1, Q2, Q3, Q4, Q5, Q6, Q7, Q8, ge_iff_le, gt_iff_lt] at hc45
                      refine WP.seq fun K47 hK47 => ?_
                      refine WP.reg tabOk rfl ?_
                      refine u_step (o_bin_int rfl rfl (by decide) rfl ?_)
                      refine u_step (o_assign rfl ?_)
                      refine u_nil ?_
                      refine hK47 _ ?_
                      refine WP.cond rfl (fun hc48 => ?_) (fun hc48 => ?_)
                      ·
                        try simp only [Q0, Q1, Q2, Q3, Q4, Q5, Q6, Q7, Q8, ge_iff_le, gt_iff_lt] at hc48
                        refine WP.seq fun K49 hK49 => ?_
                        refine WP.reg tabOk rfl ?_
                        refine u_step (o_fa_loc rfl th27 rfl rfl th3 (by decide) hb2 ?_)
                        refine u_step (o_ld_loc rfl th3 rfl hb2 rfl ?_)
                        refine u_step (o_bin_int rfl rfl (by decide) rfl ?_)
                        refine u_step (o_move rfl ?_)
                        apply u_guard
                        · exact GC.t _
                        · intro hg
                          refine o_fa_loc rfl th27 rfl rfl th9 (by decide) hb2 ⟨rfl, rfl, rfl⟩
                        apply u_guard
                        · exact GC.t _
                        · intro hg; try simp only [hg, cnd_true]; try simp only [hg, cnd_true, Bool.true_and]
                          refine o_ld_loc rfl th9 rfl hb2 rfl ⟨rfl, rfl, rfl⟩
                        apply u_guard
                        · exact GC.t _
                        · intro hg; try simp only [hg, cnd_true]; try simp only [hg, cnd_true, Bool.true_and]
                          refine o_bin_str rfl (show _ = SV.d (.str []) from rfl) rfl ⟨rfl, rfl, rfl⟩
                        refine u_step (o_pick_and rfl rfl rfl ?_)
                        refine u_step (o_move rfl ?_)
                        apply u_guard
                        · exact GC.t _
                        · intro hg
                          refine o_move rfl ⟨rfl, rfl, rfl⟩
                        apply u_guard
                        · exact GC.t _
                        · intro hg; try simp only [hg, cnd_true]; try simp only [hg, cnd_true, Bool.true_and]
                          refine o_bin_int rfl rfl (by decide) rfl ⟨rfl, rfl, rfl⟩
                        refine u_step (o_pick_and rfl rfl rfl ?_)
                        refine u_step (o_assign rfl ?_)
                        refine u_nil ?_
                        refine hK49 _ ?_
                        refine WP.ret ?_
                        refine ret_ok rfl ?_ (by omega) (fun t ht => (hk2 t (by omega)))
                        -- ret 11
                        have h1 := all_true (by omega) hin_i
                        have h2 := all_true (by omega) hin_j
                        refine congrArg D.bool ?_
                        have e1 := encVs_length xs
                        try simp only [beq_iff_eq, beq_eq_false_iff_ne] at hc7 hc16 hc25 hc28 hc31 hc35 hc45 hc48
                        rw [Bool.eq_iff_iff]
                        simp [mayV, maysV_all, h1, h2, kindOk, e1, hc7, hc16, hc25, hc28, hc31, hc35, hc45, hc48]
                        try omega
                      ·
                        try simp only [Q0, Q1, Q2, Q3, Q4, Q5, Q6, Q7, Q8, ge_iff_le, gt_iff_lt] at hc48
                        refine WP.seq fun K50 hK50 => ?_
                        refine WP.reg tabOk rfl ?_
                        refine u_step (o_bin_int rfl rfl (by decide) rfl ?_)
                        refine u_step (o_assign rfl ?_)
                        refine u_nil ?_
                        refine hK50 _ ?_
                        refine WP.cond rfl (fun hc51 => ?_) (fun hc51 => ?_)
                        ·
                          try simp only [Q0, Q1, Q2, Q3, Q4, Q5, Q6, Q7, Q8, ge_iff_le, gt_iff_lt] at hc51
                          refine WP.seq fun K52 hK52 => ?_
                          refine WP.reg tabOk rfl ?_
                          refine u_step (o_fa_loc rfl th27 rfl rfl th3 (by decide) hb2 ?_)
                          refine u_step (o_ld_loc rfl th3 rfl hb2 rfl ?_)
                          refine u_step (o_bin_int rfl rfl (by decide) rfl ?_)
                          refine u_step (o_move rfl ?_)
                          apply u_guard
                          · exact GC.t _
                          · intro hg
                            refine o_fa_loc rfl th27 rfl rfl th9 (by decide) hb2 ⟨rfl, rfl, rfl⟩
                          apply u_guard
                          · exact GC.t _
                          · intro hg; try simp only [hg, cnd_true]; try simp only [hg, cnd_true, Bool.true_and]
                            refine o_ld_loc rfl th9 rfl hb2 rfl ⟨rfl, rfl, rfl⟩
                          apply u_guard
                          · exact GC.t _
                          · intro hg; try simp only [hg, cnd_true]; try simp only [hg, cnd_true, Bool.true_and]
                            refine o_bin_str rfl (show _ = SV.d (.str []) from rfl) rfl ⟨rfl, rfl, rfl⟩
                          refine u_step (o_pick_and rfl rfl rfl ?_)
                          refine u_step (o_move rfl ?_)
                          apply u_guard
                          · exact GC.t _
                          · intro hg
                            refine o_move rfl ⟨rfl, rfl, rfl⟩
                          apply u_guard
                          · exact GC.t _
                          · intro hg
                            refine o_move rfl ⟨rfl, rfl, rfl⟩
                          apply u_guard
                          · exact GC.t _
                          · intro hg; try simp only [hg, cnd_true]; try simp only [hg, cnd_true, Bool.true_and]
                            refine o_bin_int rfl rfl (by decide) rfl ⟨rfl, rfl, rfl⟩
                          refine u_step (o_pick_and rfl rfl rfl ?_)
                          refine u_step (o_move rfl ?_)
                          apply u_guard
                          · exact GC.t _
                          · intro hg
                            refine o_fa_loc rfl th27 rfl rfl th22 (by decide) hb2 ⟨rfl, rfl, rfl⟩
                          apply u_guard
                          · exact GC.t _
                          · intro hg; try simp only [hg, cnd_true]; try simp only [hg, cnd_true, Bool.true_and]
                            refine o_ld_loc rfl th22 rfl hb2 rfl ⟨rfl, rfl, rfl⟩
                          apply u_guard
                          · exact GC.t _
                          · intro hg; try simp only [hg, cnd_true]; try simp only [hg, cnd_true, Bool.true_and]
                            refine o_pcall (s134 _) rfl ⟨rfl, rfl, rfl⟩
                          apply u_guard
                          · exact GC.t _
                          · intro hg; try simp only [hg, cnd_true]; try simp only [hg, cnd_true, Bool.true_and]
                            refine o_not rfl ⟨rfl, rfl, rfl⟩
                          refine u_step (o_pick_and rfl rfl rfl ?_)
                          refine u_step (o_assign rfl ?_)
                          refine u_nil ?_
                          refine hK52 _ ?_
                          refine WP.ret ?_
                          refine ret_ok rfl ?_ (by omega) (fun t ht => (hk2 t (by omega)))
                          -- ret 12
                          have h1 := all_true (by omega) hin_i
                          have h2 := all_true (by omega) hin_j
                          refine congrArg D.bool ?_
                          have e1 := encVs_length xs
                          try simp only [beq_iff_eq, beq_eq_false_iff_ne] at hc7 hc16 hc25 hc28 hc31 hc35 hc45 hc48 hc51
                          rw [Bool.eq_iff_iff]
                          simp [mayV, maysV_all, h1, h2, kindOk, e1, hc7, hc16, hc25, hc28, hc31, hc35, hc45, hc48, hc51]
                          try omega
                        ·
                          try simp only [Q0, Q1, Q2, Q3, Q4, Q5, Q6, Q7, Q8, ge_iff_le, gt_iff_lt] at hc51
                          refine WP.skip ?_
                          refine hK22 _ ?_
                          refine WP.seq fun K53 hK53 => ?_
                          refine WP.reg tabOk rfl ?_
                          refine u_step (o_assign rfl ?_)
                          refine u_nil ?_
                          refine hK53 _ ?_
                          refine WP.ret ?_
                          refine ret_ok rfl ?_ (by omega) (fun t ht => (hk2 t (by omega)))
                          -- ret 13
                          have h1 := all_true (by omega) hin_i
                          have h2 := all_true (by omega) hin_j
                          refine congrArg D.bool ?_
                          have e1 := encVs_length xs
                          try simp only [beq_iff_eq, beq_eq_false_iff_ne] at hc7 hc16 hc25 hc28 hc31 hc35 hc45 hc48 hc51
                          rw [Bool.eq_iff_iff]
                          simp [mayV, maysV_all, h1, h2, kindOk, e1, hc7, hc16, hc25, hc28, hc31, hc35, hc45, hc48, hc51]
                          try omega
        ·
          simp
        ·
          refine Le.al ?_
          simp only [List.forall_mem_cons]
          exact ⟨rfl, rfl, by simp⟩
    ·
      simp
    ·
      refine Le.al ?_
      simp only [List.forall_mem_cons]
      exact ⟨rfl, rfl, by simp⟩
theorem s80 (v : Val) : PSpec Tryz.prog 80 [.d (encV v)] (.d (.bool (mayV v))) := s80A _ v (Nat.lt_succ_self _)

end Go.Proofs.YtpkcbdhjnnnkbaaGreat.Abs

set_option linter.unusedVariables false
set_option linter.unusedSimpArgs false
set_option maxRecDepth 10000
namespace Go.Proofs.YtpkcbdhjnnnkbaaGreat.Abs
open Go

theorem fn154 : FnOk Tryz.prog 154 19 [4] (bodyOf Tryz.f154) := ⟨Tryz.f154, Tryz.func154, by kernel_rfl, by decide, by kernel_rfl, by kernel_rfl⟩
theorem s154 {o : Nat → Option AO} {nk : Nat} (xs : List Str) (g : FuncId) (fs cs : List SV) (p : Str → Bool) (hclo : ∀ x ∈ xs, Spec Tryz.prog g (fs ++ [.d (D.str x)] ++ cs) o nk fun r' o' nk' => r' = .d (.bool (p x)) ∧ o' = o ∧ nk' = nk) : Spec Tryz.prog 154 [.d (.sl 1 (xs.map .str)), .clo g fs cs] o nk (fun r' o' nk' => r' = .d (.int .i64 (firstI p xs)) ∧ o' = o ∧ nk' = nk) := by
  refine Spec.bd fun hbd => ?_
  have hx : xs.length ≤ 9223372036854775807 := by simpa [encVs_length] using hbd.1.1
  refine Spec.pure (fun _ => trivial) rfl (Spec.of_body fn154 (by simp) ?_)
  refine WP.seq fun K1 hK1 => ?_
  refine WP.reg tabOk rfl ?_
  refine u_step (o_assign rfl ?_)
  refine u_nil ?_
  refine hK1 _ ?_
  refine WP.seq fun K2 hK2 => ?_
  refine WP.seq fun K3 hK3 => ?_
  refine WP.reg tabOk rfl ?_
  refine u_step (o_move rfl ?_)
  refine u_step (o_len_sl rfl th22 rfl ?_)
  refine u_step (o_move rfl ?_)
  refine u_nil ?_
  refine hK3 _ ?_
  refine WP.block ?_
  refine WP.loopL (ι := Nat) (fun i => ⟨al [(0, .d (.sl 1 (xs.map .str))), (1, .clo g fs cs), (7, .d (.int .i64 (xs.map D.str).length)), (8, .d (.int .i64 i))], o, nk⟩) (fun i => i ≤ xs.length ∧ ∀ (j : Nat) (hj : j < xs.length), j < i → p xs[j] = false) (fun i => xs.length - i) (fun i hA => ?_) 0 ?_ ?_
  ·
    obtain ⟨hle_i, hin_i⟩ := hA
    refine WP.seq fun K4 hK4 => ?_
    refine WP.reg tabOk rfl ?_
    refine u_step (o_bin_int rfl rfl (by decide) rfl ?_)
    refine u_nil ?_
    refine hK4 _ ?_
    refine WP.seq fun K5 hK5 => ?_
    refine WP.cond rfl (fun hc6 => ?_) (fun hc6 => ?_)
    ·
      try simp only [Q0, Q1, Q2, Q3, Q4, Q5, Q6, Q7, Q8, ge_iff_le, gt_iff_lt] at hc6
      refine WP.skip ?_
      refine hK5 _ ?_
      refine WP.seq fun K7 hK7 => ?_
      refine WP.block ?_
      refine WP.seq fun K8 hK8 => ?_
      refine WP.reg tabOk rfl ?_
      refine u_step (o_move rfl ?_)
      refine u_step (o_assign rfl ?_)
      refine u_nil ?_
      refine hK8 _ ?_
      refine WP.seq fun K9 hK9 => ?_
      refine WP.reg tabOk rfl ?_
      refine u_step (o_moveV (v := .clo _ _ _) rfl ?_)
      refine u_step (o_move rfl ?_)
      refine u_step (o_move rfl ?_)
      first | refine u_step (o_ia_map rfl rfl th22 rfl th9 rfl (by omega) ?_) | refine u_step (o_ia_vs rfl rfl th22 rfl th9 rfl (by omega) ?_)
      refine u_step (o_ld_el rfl th9 rfl rfl ?_)
      refine u_step (o_sclo rfl (hclo _ (List.getElem_mem (by omega))) rfl ?_)
      refine u_nil ?_
      refine hK9 _ ?_
      refine WP.cond rfl (fun hc10 => ?_) (fun hc10 => ?_)
      ·
        try simp only [Q0, Q1, Q2, Q3, Q4, Q5, Q6, Q7, Q8, ge_iff_le, gt_iff_lt] at hc10
        refine WP.seq fun K11 hK11 => ?_
        refine WP.reg tabOk rfl ?_
        refine u_step (o_move rfl ?_)
        refine u_step (o_assign rfl ?_)
        refine u_nil ?_
        refine hK11 _ ?_
        refine WP.ret ?_
        refine ret_ok rfl ?_ (by omega) (fun _ _ => rfl)
        -- ret 1
        rw [firstI_at (by omega) hc10 hin_i]
      ·
        try simp only [Q0, Q1, Q2, Q3, Q4, Q5, Q6, Q7, Q8, ge_iff_le, gt_iff_lt] at hc10
        refine WP.skip ?_
        refine hK7 _ ?_
        refine WP.reg tabOk rfl ?_
        refine u_step (o_bin_int rfl rfl (by decide) rfl ?_)
        refine u_step (o_move rfl ?_)
        refine u_nil ?_
        -- back
        refine ⟨i + 1, ⟨by omega, ?_⟩, by omega, ?_⟩
        · intro j hj h1
          by_cases h2 : j = i
          · subst h2; exact hc10
          · exact hin_i j hj (by omega)
        · refine Le.al ?_
          simp only [List.forall_mem_cons]
          exact ⟨rfl, rfl, rfl, cnt (by omega), by simp⟩
    ·
      try simp only [Q0, Q1, Q2, Q3, Q4, Q5, Q6, Q7, Q8, ge_iff_le, gt_iff_lt] at hc6
      refine WP.exit ?_
      refine hK2 _ ?_
      refine WP.seq fun K12 hK12 => ?_
      refine WP.reg tabOk rfl ?_
      refine u_step (o_assign rfl ?_)
      refine u_nil ?_
      refine hK12 _ ?_
      refine WP.ret ?_
      refine ret_ok rfl ?_ (by omega) (fun _ _ => rfl)
      -- ret 2
      rw [firstI_none fun j hj => hin_i j hj (by omega)]
  ·
    simp
  ·
    refine Le.al ?_
    simp only [List.forall_mem_cons]
    exact ⟨rfl, rfl, rfl, rfl, by simp⟩

theorem fn112 : FnOk Tryz.prog 112 9 [4] (bodyOf Tryz.f112) := ⟨Tryz.f112, Tryz.func112, by kernel_rfl, by decide, by kernel_rfl, by kernel_rfl⟩
theorem s112 {o : Nat → Option AO} {nk : Nat} (xs : List Str) (g : FuncId) (fs cs : List SV) (p : Str → Bool) (hclo : ∀ x ∈ xs, Spec Tryz.prog g (fs ++ [.d (D.str x)] ++ cs) o nk fun r' o' nk' => r' = .d (.bool (p x)) ∧ o' = o ∧ nk' = nk) : Spec Tryz.prog 112 [.d (.sl 1 (xs.map .str)), .clo g fs cs] o nk (fun r' o' nk' => r' = .d (.bool (xs.any p)) ∧ o' = o ∧ nk' = nk) := by
  refine Spec.pure (fun _ => trivial) rfl (Spec.of_body fn112 (by simp) ?_)
  refine WP.seq fun K1 hK1 => ?_
  refine WP.reg tabOk rfl ?_
  refine u_step (o_assign rfl ?_)
  refine u_nil ?_
  refine hK1 _ ?_
  refine WP.seq fun K2 hK2 => ?_
  refine WP.reg tabOk rfl ?_
  refine u_step (o_move rfl ?_)
  refine u_step (o_moveV (v := .clo _ _ _) rfl ?_)
  refine u_step (o_scall (s154 _ _ _ _ _ hclo) rfl ?_)
  refine u_step (o_bin_int rfl rfl (by decide) rfl ?_)
  refine u_step (o_assign rfl ?_)
  refine u_nil ?_
  refine hK2 _ ?_
  refine WP.ret ?_
  refine ret_ok rfl ?_ (by omega) (fun _ _ => rfl)
  -- ret 1
  rw [← firstI_nn]

theorem fn163 : FnOk Tryz.prog 163 19 [4] (bodyOf Tryz.f163) := ⟨Tryz.f163, Tryz.func163, by kernel_rfl, by decide, by kernel_rfl, by kernel_rfl⟩
theorem s163 {o : Nat → Option AO} {nk : Nat} (xs : List Val) (g : FuncId) (fs cs : List SV) (p : Val → Bool) (hclo : ∀ x ∈ xs, Spec Tryz.prog g (fs ++ [.d (encV x)] ++ cs) o nk fun r' o' nk' => r' = .d (.bool (p x)) ∧ o' = o ∧ nk' = nk) : Spec Tryz.prog 163 [.d (.sl 5 (encVs xs)), .clo g fs cs] o nk (fun r' o' nk' => r' = .d (.int .i64 (firstI p xs)) ∧ o' = o ∧ nk' = nk) := by
  refine Spec.bd fun hbd => ?_
  have hx : xs.length ≤ 9223372036854775807 := by simpa [encVs_length] using hbd.1.1
  refine Spec.pure (fun _ => trivial) rfl (Spec.of_body fn163 (by simp) ?_)
  refine WP.seq fun K1 hK1 => ?_
  refine WP.reg tabOk rfl ?_
  refine u_step (o_assign rfl ?_)
  refine u_nil ?_
  refine hK1 _ ?_
  refine WP.seq fun K2 hK2 => ?_
  refine WP.seq fun K3 hK3 => ?_
  refine WP.reg tabOk rfl ?_
  refine u_step (o_move rfl ?_)
  refine u_step (o_len_sl rfl th25 rfl ?_)
  refine u_step (o_move rfl ?_)
  refine u_nil ?_
  refine hK3 _ ?_
  refine WP.block ?_
  refine WP.loopL (ι := Nat) (fun i => ⟨al [(0, .d (.sl 5 (encVs xs))), (1, .clo g fs cs), (7, .d (.int .i64 (encVs xs).length)), (8, .d (.int .i64 i))], o, nk⟩) (fun i => i ≤ xs.length ∧ ∀ (j : Nat) (hj : j < xs.length), j < i → p xs[j] = false) (fun i => xs.length - i) (fun i hA => ?_) 0 ?_ ?_
  ·
    obtain ⟨hle_i, hin_i⟩ := hA
    refine WP.seq fun K4 hK4 => ?_
    refine WP.reg tabOk rfl ?_
    refine u_step (o_bin_int rfl rfl (by decide) rfl ?_)
    refine u_nil ?_
    refine hK4 _ ?_
    refine WP.seq fun K5 hK5 => ?_
    refine WP.cond rfl (fun hc6 => ?_) (fun hc6 => ?_)
    ·
      try simp only [Q0, Q1, Q2, Q3, Q4, Q5, Q6, Q7, Q8, ge_iff_le, gt_iff_lt] at hc6
      refine WP.skip ?_
      refine hK5 _ ?_
      refine WP.seq fun K7 hK7 => ?_
      refine WP.block ?_
      refine WP.seq fun K8 hK8 => ?_
      refine WP.reg tabOk rfl ?_
      refine u_step (o_move rfl ?_)
      refine u_step (o_assign rfl ?_)
      refine u_nil ?_
      refine hK8 _ ?_
      refine WP.seq fun K9 hK9 => ?_
      refine WP.reg tabOk rfl ?_
      refine u_step (o_moveV (v := .clo _ _ _) rfl ?_)
      refine u_step (o_move rfl ?_)
      refine u_step (o_move rfl ?_)
      first | refine u_step (o_ia_map rfl rfl th25 rfl th27 rfl (by omega) ?_) | refine u_step (o_ia_vs rfl rfl th25 rfl th27 rfl (by omega) ?_)
      refine u_step (o_ld_el rfl th27 (by first | rfl | simp only [encV_leaf, encV_width, Bool.not_true, TK.agg]) (by first | rfl | simp only [encV_leaf, encV_width, Bool.not_true, TK.agg]) ?_)
      refine u_step (o_sclo rfl (hclo _ (List.getElem_mem (by omega))) rfl ?_)
      refine u_nil ?_
      refine hK9 _ ?_
      refine WP.cond rfl (fun hc10 => ?_) (fun hc10 => ?_)
      ·
        try simp only [Q0, Q1, Q2, Q3, Q4, Q5, Q6, Q7, Q8, ge_iff_le, gt_iff_lt] at hc10
        refine WP.seq fun K11 hK11 => ?_
        refine WP.reg tabOk rfl ?_
        refine u_step (o_move rfl ?_)
        refine u_step (o_assign rfl ?_)
        refine u_nil ?_
        refine hK11 _ ?_
        refine WP.ret ?_
        refine ret_ok rfl ?_ (by omega) (fun _ _ => rfl)
        -- ret 1
        rw [firstI_at (by omega) hc10 hin_i]
      ·
        try simp only [Q0, Q1, Q2, Q3, Q4, Q5, Q6, Q7, Q8, ge_iff_le, gt_iff_lt] at hc10
        refine WP.skip ?_
        refine hK7 _ ?_
        refine WP.reg tabOk rfl ?_
        refine u_step (o_bin_int rfl rfl (by decide) rfl ?_)
        refine u_step (o_move rfl ?_)
        refine u_nil ?_
        -- back
        refine ⟨i + 1, ⟨by omega, ?_⟩, by omega, ?_⟩
        · intro j hj h1
          by_cases h2 : j = i
          · subst h2; exact hc10
          · exact hin_i j hj (by omega)
        · refine Le.al ?_
          simp only [List.forall_mem_cons]
          exact ⟨rfl, rfl, rfl, cnt (by omega), by simp⟩
    ·
      try simp only [Q0, Q1, Q2, Q3, Q4, Q5, Q6, Q7, Q8, ge_iff_le, gt_iff_lt] at hc6
      refine WP.exit ?_
      refine hK2 _ ?_
      refine WP.seq fun K12 hK12 => ?_
      refine WP.reg tabOk rfl ?_
      refine u_step (o_assign rfl ?_)
      refine u_nil ?_
      refine hK12 _ ?_
      refine WP.ret ?_
      refine ret_ok rfl ?_ (by omega) (fun _ _ => rfl)
      -- ret 2
      rw [firstI_none fun j hj => hin_i j hj (by omega)]
  ·
    simp
  ·
    refine Le.al ?_
    simp only [List.forall_mem_cons]
    exact ⟨rfl, rfl, rfl, rfl, by simp⟩

theorem fn129 : FnOk Tryz.prog 129 9 [4] (bodyOf Tryz.f129) := ⟨Tryz.f129, Tryz.func129, by kernel_rfl, by decide, by kernel_rfl, by kernel_rfl⟩
theorem s129 {o : Nat → Option AO} {nk : Nat} (xs : List Val) (g : FuncId) (fs cs : List SV) (p : Val → Bool) (hclo : ∀ x ∈ xs, Spec Tryz.prog g (fs ++ [.d (encV x)] ++ cs) o nk fun r' o' nk' => r' = .d (.bool (p x)) ∧ o' = o ∧ nk' = nk) : Spec Tryz.prog 129 [.d (.sl 5 (encVs xs)), .clo g fs cs] o nk (fun r' o' nk' => r' = .d (.bool (xs.any p)) ∧ o' = o ∧ nk' = nk) := by
  refine Spec.pure (fun _ => trivial) rfl (Spec.of_body fn129 (by simp) ?_)
  refine WP.seq fun K1 hK1 => ?_
  refine WP.reg tabOk rfl ?_
  refine u_step (o_assign rfl ?_)
  refine u_nil ?_
  refine hK1 _ ?_
  refine WP.seq fun K2 hK2 => ?_
  refine WP.reg tabOk rfl ?_
  refine u_step (o_move rfl ?_)
  refine u_step (o_moveV (v := .clo _ _ _) rfl ?_)
  refine u_step (o_scall (s163 _ _ _ _ _ hclo) rfl ?_)
  refine u_step (o_bin_int rfl rfl (by decide) rfl ?_)
  refine u_step (o_assign rfl ?_)
  refine u_nil ?_
  refine hK2 _ ?_
  refine WP.ret ?_
  refine ret_ok rfl ?_ (by omega) (fun _ _ => rfl)
  -- ret 1
  rw [← firstI_nn]

theorem fn159 : FnOk Tryz.prog 159 19 [4] (bodyOf Tryz.f159) := ⟨Tryz.f159, Tryz.func159, by kernel_rfl, by decide, by kernel_rfl, by kernel_rfl⟩
theorem s159 {o : Nat → Option AO} {nk : Nat} (xs : List Dlt) (g : FuncId) (fs cs : List SV) (p : Dlt → Bool) (hclo : ∀ x ∈ xs, Spec Tryz.prog g (fs ++ [.d (encD x)] ++ cs) o nk fun r' o' nk' => r' = .d (.bool (p x)) ∧ o' = o ∧ nk' = nk) : Spec Tryz.prog 159 [.d (.sl 8 (xs.map encD)), .clo g fs cs] o nk (fun r' o' nk' => r' = .d (.int .i64 (firstI p xs)) ∧ o' = o ∧ nk' = nk) := by
  refine Spec.bd fun hbd => ?_
  have hx : xs.length ≤ 9223372036854775807 := by simpa [encVs_length] using hbd.1.1
  refine Spec.pure (fun _ => trivial) rfl (Spec.of_body fn159 (by simp) ?_)
  refine WP.seq fun K1 hK1 => ?_
  refine WP.reg tabOk rfl ?_
  refine u_step (o_assign rfl ?_)
  refine u_nil ?_
  refine hK1 _ ?_
  refine WP.seq fun K2 hK2 => ?_
  refine WP.seq fun K3 hK3 => ?_
  refine WP.reg tabOk rfl ?_
  refine u_step (o_move rfl ?_)
  refine u_step (o_len_sl rfl th28 rfl ?_)
  refine u_step (o_move rfl ?_)
  refine u_nil ?_
  refine hK3 _ ?_
  refine WP.block ?_
  refine WP.loopL (ι := Nat) (fun i => ⟨al [(0, .d (.sl 8 (xs.map encD))), (1, .clo g fs cs), (7, .d (.int .i64 (xs.map encD).length)), (8, .d (.int .i64 i))], o, nk⟩) (fun i => i ≤ xs.length ∧ ∀ (j : Nat) (hj : j < xs.length), j < i → p xs[j] = false) (fun i => xs.length - i) (fun i hA => ?_) 0 ?_ ?_
  ·
    obtain ⟨hle_i, hin_i⟩ := hA
    refine WP.seq fun K4 hK4 => ?_
    refine WP.reg tabOk rfl ?_
    refine u_step (o_bin_int rfl rfl (by decide) rfl ?_)
    refine u_nil ?_
    refine hK4 _ ?_
    refine WP.seq fun K5 hK5 => ?_
    refine WP.cond rfl (fun hc6 => ?_) (fun hc6 => ?_)
    ·
      try simp only [Q0, Q1, Q2, Q3, Q4, Q5, Q6, Q7, Q8, ge_iff_le, gt_iff_lt] at hc6
      refine WP.skip ?_
      refine hK5 _ ?_
      refine WP.seq fun K7 hK7 => ?_
      refine WP.block ?_
      refine WP.seq fun K8 hK8 => ?_
      refine WP.reg tabOk rfl ?_
      refine u_step (o_move rfl ?_)
      refine u_step (o_assign rfl ?_)
      refine u_nil ?_
      refine hK8 _ ?_
      refine WP.seq fun K9 hK9 => ?_
      refine WP.reg tabOk rfl ?_
      refine u_step (o_moveV (v := .clo _ _ _) rfl ?_)
      refine u_step (o_move rfl ?_)
      refine u_step (o_move rfl ?_)
      first | refine u_step (o_ia_map rfl rfl th28 rfl th83 rfl (by omega) ?_) | refine u_step (o_ia_vs rfl rfl th28 rfl th83 rfl (by omega) ?_)
      refine u_step (o_ld_el rfl th83 rfl rfl ?_)
      refine u_step (o_sclo rfl (hclo _ (List.getElem_mem (by omega))) rfl ?_)
      refine u_nil ?_
      refine hK9 _ ?_
      refine WP.cond rfl (fun hc10 => ?_) (fun hc10 => ?_)
      ·
        try simp only [Q0, Q1, Q2, Q3, Q4, Q5, Q6, Q7, Q8, ge_iff_le, gt_iff_lt] at hc10
        refine WP.seq fun K11 hK11 => ?_
        refine WP.reg tabOk rfl ?_
        refine u_step (o_move rfl ?_)
        refine u_step (o_assign rfl ?_)
        refine u_nil ?_
        refine hK11 _ ?_
        refine WP.ret ?_
        refine ret_ok rfl ?_ (by omega) (fun _ _ => rfl)
        -- ret 1
        rw [firstI_at (by omega) hc10 hin_i]
      ·
        try simp only [Q0, Q1, Q2, Q3, Q4, Q5, Q6, Q7, Q8, ge_iff_le, gt_iff_lt] at hc10
        refine WP.skip ?_
        refine hK7 _ ?_
        refine WP.reg tabOk rfl ?_
        refine u_step (o_bin_int rfl rfl (by decide) rfl ?_)
        refine u_step (o_move rfl ?_)
        refine u_nil ?_
        -- back
        refine ⟨i + 1, ⟨by omega, ?_⟩, by omega, ?_⟩
        · intro j hj h1
          by_cases h2 : j = i
          · subst h2; exact hc10
          · exact hin_i j hj (by omega)
        · refine Le.al ?_
          simp only [List.forall_mem_cons]
          exact ⟨rfl, rfl, rfl, cnt (by omega), by simp⟩
    ·
      try simp only [Q0, Q1, Q2, Q3, Q4, Q5, Q6, Q7, Q8, ge_iff_le, gt_iff_lt] at hc6
      refine WP.exit ?_
      refine hK2 _ ?_
      refine WP.seq fun K12 hK12 => ?_
      refine WP.reg tabOk rfl ?_
      refine u_step (o_assign rfl ?_)
      refine u_nil ?_
      refine hK12 _ ?_
      refine WP.ret ?_
      refine ret_ok rfl ?_ (by omega) (fun _ _ => rfl)
      -- ret 2
      rw [firstI_none fun j hj => hin_i j hj (by omega)]
  ·
    simp
  ·
    refine Le.al ?_
    simp only [List.forall_mem_cons]
    exact ⟨rfl, rfl, rfl, rfl, by simp⟩

theorem fn121 : FnOk Tryz.prog 121 9 [4] (bodyOf Tryz.f121) := ⟨Tryz.f121, Tryz.func121, by kernel_rfl, by decide, by kernel_rfl, by kernel_rfl⟩
theorem s121 {o : Nat → Option AO} {nk : Nat} (xs : List Dlt) (g : FuncId) (fs cs : List SV) (p : Dlt → Bool) (hclo : ∀ x ∈ xs, Spec Tryz.prog g (fs ++ [.d (encD x)] ++ cs) o nk fun r' o' nk' => r' = .d (.bool (p x)) ∧ o' = o ∧ nk' = nk) : Spec Tryz.prog 121 [.d (.sl 8 (xs.map encD)), .clo g fs cs] o nk (fun r' o' nk' => r' = .d (.bool (xs.any p)) ∧ o' = o ∧ nk' = nk) := by
  refine Spec.pure (fun _ => trivial) rfl (Spec.of_body fn121 (by simp) ?_)
  refine WP.seq fun K1 hK1 => ?_
  refine WP.reg tabOk rfl ?_
  refine u_step (o_assign rfl ?_)
  refine u_nil ?_
  refine hK1 _ ?_
  refine WP.seq fun K2 hK2 => ?_
  refine WP.reg tabOk rfl ?_
  refine u_step (o_move rfl ?_)
  refine u_step (o_moveV (v := .clo _ _ _) rfl ?_)
  refine u_step (o_scall (s159 _ _ _ _ _ hclo) rfl ?_)
  refine u_step (o_bin_int rfl rfl (by decide) rfl ?_)
  refine u_step (o_assign rfl ?_)
  refine u_nil ?_
  refine hK2 _ ?_
  refine WP.ret ?_
  refine ret_ok rfl ?_ (by omega) (fun _ _ => rfl)
  -- ret 1
  rw [← firstI_nn]

end Go.Proofs.YtpkcbdhjnnnkbaaGreat.Abs

set_option linter.unusedVariables false
set_option linter.unusedSimpArgs false
set_option maxRecDepth 10000
namespace Go.Proofs.YtpkcbdhjnnnkbaaGreat.Abs
open Go
/-- A function without a body that answers. -/
theorem PSpec.extern {P : Program} {f : FuncId} {fn : Func} {e : Array Value → Sem Value} {args : List SV} {x : D} (hf : P.funcs[f]? = some fn) (hname : (fn.name == "runtime.NumGoroutine") = false) (hb : fn.body.isNone = true) (hn : Extern.findNext fn = none) (he : Extern.find fn = some e)
    (h : ∀ (w : World) (S : Nat → Prop) (γ : Nat → Value) (o : Nat → Option AO) (vs : List Value), vs.length = args.length → (∀ (i : Nat) (c : SV) (v : Value), args[i]? = some c → vs[i]? = some v → SR w S γ o c v) → ∃ u, (e vs.toArray).run P w = .ok u w ∧ Rd w S x u) : PSpec P f args (.d x) := by
  intro o nk w S γ vs h1 h2 h3 h4
  obtain ⟨u, h5, h6⟩ := h w S γ o vs h2 h3
  unfold Does
  rw [run_callFunc_extern hf hname hb hn he, h5]
  exact ⟨.d x, o, nk, S, γ, ⟨rfl, rfl, rfl⟩, h1, Tr.refl _ _ _ _ _, .d _ _ h6, trivial⟩
theorem s208 (s : Str) (c : Int) : PSpec Tryz.prog 208 [.d (.str s), .d (.int .u8 c)] (.d (.int .i64 (Go.Lib.indexByte s c.toNat.toUInt8))) :=
  PSpec.extern Tryz.func208 (by kernel_rfl) (by kernel_rfl) (by kernel_rfl) (e := Extern.BytealgIndexByte.indexByte) (by kernel_rfl) fun w S γ o vs hl hr => by
    match vs, hl with
    | [u, v], _ =>
      cases hr 0 _ u rfl rfl with
      | d _ _ hu => cases hu with
        | str => cases hr 1 _ v rfl rfl with
          | d _ _ hv => cases hv with
            | int => exact ⟨_, Go.Lib.run_indexByteString _ _ _, .int _ _⟩
theorem s212 (s t : Str) : PSpec Tryz.prog 212 [.d (.str s), .d (.str t)] (.d (.int .i64 (Go.Lib.compareBytes s t))) :=
  PSpec.extern Tryz.func212 (by kernel_rfl) (by kernel_rfl) (by kernel_rfl) (e := Extern.BytealgCompare.compare) (by kernel_rfl) fun w S γ o vs hl hr => by
    match vs, hl with
    | [u, v], _ =>
      cases hr 0 _ u rfl rfl with
      | d _ _ hu => cases hu with
        | str => cases hr 1 _ v rfl rfl with
          | d _ _ hv => cases hv with
            | str => exact ⟨_, Go.Lib.run_compareString _ _ _, .int _ _⟩

theorem fn203 : FnOk Tryz.prog 203 8 [4] (bodyOf Tryz.f203) := ⟨Tryz.f203, Tryz.func203, by kernel_rfl, by decide, by kernel_rfl, by kernel_rfl⟩
theorem s203 (s : Str) (c : Int) : PSpec Tryz.prog 203 [.d (.str s), .d (.int .u8 c)] (.d (.int .i64 (Go.Lib.indexByte s c.toNat.toUInt8))) := by
  refine PSpec.of fn203 (by simp) fun o nk => ?_
  refine WP.seq fun K1 hK1 => ?_
  refine WP.reg tabOk rfl ?_
  refine u_step (o_assign rfl ?_)
  refine u_nil ?_
  refine hK1 _ ?_
  refine WP.seq fun K2 hK2 => ?_
  refine WP.reg tabOk rfl ?_
  refine u_step (o_move rfl ?_)
  refine u_step (o_move rfl ?_)
  refine u_step (o_pcall (s208 _ _) rfl ?_)
  refine u_step (o_assign rfl ?_)
  refine u_nil ?_
  refine hK2 _ ?_
  refine WP.ret ?_
  refine ret_ok rfl ?_ (by omega) (fun _ _ => rfl)
  -- ret 1
  rfl

theorem fn211 : FnOk Tryz.prog 211 8 [4] (bodyOf Tryz.f211) := ⟨Tryz.f211, Tryz.func211, by kernel_rfl, by decide, by kernel_rfl, by kernel_rfl⟩
theorem s211 (s t : Str) : PSpec Tryz.prog 211 [.d (.str s), .d (.str t)] (.d (.int .i64 (Go.Lib.compareBytes s t))) := by
  refine PSpec.of fn211 (by simp) fun o nk => ?_
  refine WP.seq fun K1 hK1 => ?_
  refine WP.reg tabOk rfl ?_
  refine u_step (o_assign rfl ?_)
  refine u_nil ?_
  refine hK1 _ ?_
  refine WP.seq fun K2 hK2 => ?_
  refine WP.reg tabOk rfl ?_
  refine u_step (o_move rfl ?_)
  refine u_step (o_move rfl ?_)
  refine u_step (o_pcall (s212 _ _) rfl ?_)
  refine u_step (o_assign rfl ?_)
  refine u_nil ?_
  refine hK2 _ ?_
  refine WP.ret ?_
  refine ret_ok rfl ?_ (by omega) (fun _ _ => rfl)
  -- ret 1
  rfl

theorem fn207 : FnOk Tryz.prog 207 8 [4] (bodyOf Tryz.f207) := ⟨Tryz.f207, Tryz.func207, by kernel_rfl, by decide, by kernel_rfl, by kernel_rfl⟩
theorem s207 (s t : Str) : PSpec Tryz.prog 207 [.d (.str s), .d (.str t)] (.d (.int .i64 (Go.Lib.compareBytes s t))) := by
  refine PSpec.of fn207 (by simp) fun o nk => ?_
  refine WP.seq fun K1 hK1 => ?_
  refine WP.reg tabOk rfl ?_
  refine u_step (o_assign rfl ?_)
  refine u_nil ?_
  refine hK1 _ ?_
  refine WP.seq fun K2 hK2 => ?_
  refine WP.reg tabOk rfl ?_
  refine u_step (o_move rfl ?_)
  refine u_step (o_move rfl ?_)
  refine u_step (o_pcall (s211 _ _) rfl ?_)
  refine u_step (o_assign rfl ?_)
  refine u_nil ?_
  refine hK2 _ ?_
  refine WP.ret ?_
  refine ret_ok rfl ?_ (by omega) (fun _ _ => rfl)
  -- ret 1
  rfl

theorem fn181 : FnOk Tryz.prog 181 18 [4] (bodyOf Tryz.f181) := ⟨Tryz.f181, Tryz.func181, by kernel_rfl, by decide, by kernel_rfl, by kernel_rfl⟩
theorem s181 (s p : Str) : PSpec Tryz.prog 181 [.d (.str s), .d (.str p)] (.d (.bool (p.isPrefixOf s))) := by
  refine PSpec.of fn181 (by simp) fun o nk => ?_
  refine WP.seq fun K1 hK1 => ?_
  refine WP.reg tabOk rfl ?_
  refine u_step (o_assign rfl ?_)
  refine u_nil ?_
  refine hK1 _ ?_
  refine WP.seq fun K2 hK2 => ?_
  refine WP.reg tabOk rfl ?_
  refine u_step (o_move rfl ?_)
  refine u_step (o_len_str rfl th9 rfl ?_)
  refine u_step (o_move rfl ?_)
  refine u_step (o_len_str rfl th9 rfl ?_)
  refine u_step (o_bin_int rfl rfl (by decide) rfl ?_)
  refine u_step (o_move rfl ?_)
  apply u_guard
  · exact GC.t _
  · intro hg
    refine o_move rfl ⟨rfl, rfl, rfl⟩
  apply u_guard
  · exact GC.t _
  · intro hg
    refine o_move rfl ⟨rfl, rfl, rfl⟩
  apply u_guard
  · exact GC.t _
  · intro hg; try simp only [hg, cnd_true]; try simp only [hg, cnd_true, Bool.true_and]
    refine o_len_str rfl th9 rfl ⟨rfl, rfl, rfl⟩
  apply u_guard
  · exact GC.t _
  · intro hg; try simp only [hg, cnd_true]; try simp only [hg, cnd_true, Bool.true_and]
    have hg2 := hg; try simp only [Q0, Q1, Q2, Q3, Q4, Q5, Q6, Q9, Qa, Qb, Qc, Qd] at hg2
    refine o_sl_str rfl th9 rfl (bnd_nat (by simp at hg; omega)) rfl ⟨rfl, rfl, rfl⟩
  apply u_guard
  · exact GC.t _
  · intro hg
    refine o_move rfl ⟨rfl, rfl, rfl⟩
  apply u_guard
  · exact GC.t _
  · intro hg; try simp only [hg, cnd_true]; try simp only [hg, cnd_true, Bool.true_and]
    refine o_bin_str rfl rfl rfl ⟨rfl, rfl, rfl⟩
  refine u_step (o_pick_and rfl rfl rfl ?_)
  refine u_step (o_assign rfl ?_)
  refine u_nil ?_
  refine hK2 _ ?_
  refine WP.ret ?_
  refine ret_ok rfl ?_ (by omega) (fun _ _ => rfl)
  -- ret 1
  refine congrArg D.bool ?_
  rw [Bool.eq_iff_iff]
  simp only [List.drop_zero, Bool.and_eq_true, decide_eq_true_eq, List.isPrefixOf_iff_prefix, List.prefix_iff_eq_take]
  constructor
  · rintro ⟨_, h⟩; exact h.symm
  · intro h; refine ⟨?_, h.symm⟩; have := congrArg List.length h; simp at this; omega

theorem fn152 : FnOk Tryz.prog 152 8 [4] (bodyOf Tryz.f152) := ⟨Tryz.f152, Tryz.func152, by kernel_rfl, by decide, by kernel_rfl, by kernel_rfl⟩
theorem s152 (s p : Str) : PSpec Tryz.prog 152 [.d (.str s), .d (.str p)] (.d (.bool (p.isPrefixOf s))) := by
  refine PSpec.of fn152 (by simp) fun o nk => ?_
  refine WP.seq fun K1 hK1 => ?_
  refine WP.reg tabOk rfl ?_
  refine u_step (o_assign rfl ?_)
  refine u_nil ?_
  refine hK1 _ ?_
  refine WP.seq fun K2 hK2 => ?_
  refine WP.reg tabOk rfl ?_
  refine u_step (o_move rfl ?_)
  refine u_step (o_move rfl ?_)
  refine u_step (o_pcall (s181 _ _) rfl ?_)
  refine u_step (o_assign rfl ?_)
  refine u_nil ?_
  refine hK2 _ ?_
  refine WP.ret ?_
  refine ret_ok rfl ?_ (by omega) (fun _ _ => rfl)
  -- ret 1
  rfl

end Go.Proofs.YtpkcbdhjnnnkbaaGreat.Abs

set_option linter.unusedVariables false
set_option linter.unusedSimpArgs false
set_option maxRecDepth 10000
namespace Go.Proofs.YtpkcbdhjnnnkbaaGreat.Abs
open Go
theorem take_snoc2 {ns : List Str} {i : Nat} (h : i < ns.length) : ns.take (i + 1) = ns.take i ++ [ns[i]] := List.take_succ_eq_append_getElem h
theorem indexByte_nn (s : Str) (c : UInt8) : decide (0 ≤ Go.Lib.indexByte s c) = decide (c ∈ s) := by
  induction s with
  | nil => simp [Go.Lib.indexByte]
  | cons x s ih =>
    rw [Bool.eq_iff_iff] at ih ⊢
    simp only [decide_eq_true_eq] at ih ⊢
    have h1 := Go.Lib.indexByte_ge s c
    simp only [Go.Lib.indexByte, List.mem_cons]
    by_cases hx : x = c
    · subst hx; simp
    · have hx' : ¬ c = x := fun e => hx e.symm
      simp only [beq_iff_eq, hx, if_false, hx', false_or]
      rw [← ih]
      split <;> omega

theorem fn199 : FnOk Tryz.prog 199 143 [4] (bodyOf Tryz.f199) := ⟨Tryz.f199, Tryz.func199, by kernel_rfl, by decide, by kernel_rfl, by kernel_rfl⟩
theorem s199 (s : Str) : PSpec Tryz.prog 199 [.d (.str s), .d (.str [46])] (.d (.int .i64 (Go.Lib.indexByte s 46))) := by
  refine PSpec.of fn199 (by simp) fun o nk => ?_
  refine WP.seq fun K1 hK1 => ?_
  refine WP.reg tabOk rfl ?_
  refine u_step (o_assign rfl ?_)
  refine u_nil ?_
  refine hK1 _ ?_
  refine WP.seq fun K2 hK2 => ?_
  refine WP.reg tabOk rfl ?_
  refine u_step (o_move rfl ?_)
  refine u_step (o_len_str rfl th9 rfl ?_)
  refine u_step (o_assign rfl ?_)
  refine u_nil ?_
  refine hK2 _ ?_
  refine WP.seq fun K3 hK3 => ?_
  refine WP.block ?_
  refine WP.seq fun K4 hK4 => ?_
  refine WP.reg tabOk rfl ?_
  refine u_step (o_move rfl ?_)
  refine u_step (o_bin_int rfl rfl (by decide) rfl ?_)
  refine u_step (o_move rfl ?_)
  apply u_guard
  · exact GC.f _
  · intro hg
    refine o_move rfl ⟨rfl, rfl, rfl⟩
  apply u_guard
  · exact GC.f _
  · intro hg
    refine o_move rfl ⟨rfl, rfl, rfl⟩
  apply u_guard
  · exact GC.f _
  · intro hg; try simp only [hg, cnd_true]; try simp only [hg, cnd_true, Bool.true_and]
    refine o_bin_str rfl rfl rfl ⟨rfl, rfl, rfl⟩
  refine u_step (o_pick_or rfl rfl rfl ?_)
  refine u_step (o_assign rfl ?_)
  refine u_nil ?_
  refine hK4 _ ?_
  refine WP.cond rfl (fun hc5 => ?_) (fun hc5 => ?_)
  ·
    try simp only [Q0, Q1, Q2, Q3, Q4, Q5, Q6, Q7, Q8, ge_iff_le, gt_iff_lt] at hc5
    refine WP.seq fun K6 hK6 => ?_
    refine WP.reg tabOk rfl ?_
    refine u_step (o_assign rfl ?_)
    refine u_nil ?_
    refine hK6 _ ?_
    refine WP.ret ?_
    refine ret_ok rfl ?_ (by omega) (fun _ _ => rfl)
    -- ret 1
    have hs : [46] = s := by simpa using hc5
    subst hs
    rfl
  ·
    try simp only [Q0, Q1, Q2, Q3, Q4, Q5, Q6, Q7, Q8, ge_iff_le, gt_iff_lt] at hc5
    refine WP.seq fun K7 hK7 => ?_
    refine WP.reg tabOk rfl ?_
    refine u_step (o_move rfl ?_)
    refine u_step (o_bin_int rfl rfl (by decide) rfl ?_)
    refine u_step (o_assign rfl ?_)
    refine u_nil ?_
    refine hK7 _ ?_
    refine WP.cond rfl (fun hc8 => ?_) (fun hc8 => ?_)
    ·
      try simp only [Q0, Q1, Q2, Q3, Q4, Q5, Q6, Q7, Q8, ge_iff_le, gt_iff_lt] at hc8
      refine WP.seq fun K9 hK9 => ?_
      refine WP.reg tabOk rfl ?_
      refine u_step (o_move rfl ?_)
      refine u_step (o_move rfl ?_)
      refine u_step (o_ix rfl rfl th9 rfl ?_ ?_ ?_)
      · decide
      · decide
      refine u_step (o_pcall (s203 _ _) rfl ?_)
      refine u_step (o_assign rfl ?_)
      refine u_nil ?_
      refine hK9 _ ?_
      refine WP.ret ?_
      refine ret_ok rfl ?_ (by omega) (fun _ _ => rfl)
      -- ret 2
      rfl
    ·
      try simp only [Q0, Q1, Q2, Q3, Q4, Q5, Q6, Q7, Q8, ge_iff_le, gt_iff_lt] at hc8
      exact absurd hc8 (by decide)

theorem fn182 : FnOk Tryz.prog 182 8 [4] (bodyOf Tryz.f182) := ⟨Tryz.f182, Tryz.func182, by kernel_rfl, by decide, by kernel_rfl, by kernel_rfl⟩
theorem s182 (s : Str) : PSpec Tryz.prog 182 [.d (.str s), .d (.str [46])] (.d (.int .i64 (Go.Lib.indexByte s 46))) := by
  refine PSpec.of fn182 (by simp) fun o nk => ?_
  refine WP.seq fun K1 hK1 => ?_
  refine WP.reg tabOk rfl ?_
  refine u_step (o_assign rfl ?_)
  refine u_nil ?_
  refine hK1 _ ?_
  refine WP.seq fun K2 hK2 => ?_
  refine WP.reg tabOk rfl ?_
  refine u_step (o_move rfl ?_)
  refine u_step (o_move rfl ?_)
  refine u_step (o_pcall (s199 _) rfl ?_)
  refine u_step (o_assign rfl ?_)
  refine u_nil ?_
  refine hK2 _ ?_
  refine WP.ret ?_
  refine ret_ok rfl ?_ (by omega) (fun _ _ => rfl)
  -- ret 1
  rfl

theorem fn153 : FnOk Tryz.prog 153 9 [4] (bodyOf Tryz.f153) := ⟨Tryz.f153, Tryz.func153, by kernel_rfl, by decide, by kernel_rfl, by kernel_rfl⟩
theorem s153 (s : Str) : PSpec Tryz.prog 153 [.d (.str s), .d (.str [46])] (.d (.bool (decide ((46 : UInt8) ∈ s)))) := by
  refine PSpec.of fn153 (by simp) fun o nk => ?_
  refine WP.seq fun K1 hK1 => ?_
  refine WP.reg tabOk rfl ?_
  refine u_step (o_assign rfl ?_)
  refine u_nil ?_
  refine hK1 _ ?_
  refine WP.seq fun K2 hK2 => ?_
  refine WP.reg tabOk rfl ?_
  refine u_step (o_move rfl ?_)
  refine u_step (o_move rfl ?_)
  refine u_step (o_pcall (s182 _) rfl ?_)
  refine u_step (o_bin_int rfl rfl (by decide) rfl ?_)
  refine u_step (o_assign rfl ?_)
  refine u_nil ?_
  refine hK2 _ ?_
  refine WP.ret ?_
  refine ret_ok rfl ?_ (by omega) (fun _ _ => rfl)
  -- ret 1
  rw [← indexByte_nn]

theorem fn111 : FnOk Tryz.prog 111 21 [2] (bodyOf Tryz.f111) := ⟨Tryz.f111, Tryz.func111, by kernel_rfl, by decide, by kernel_rfl, by kernel_rfl⟩
theorem s111 (x : Str) : PSpec Tryz.prog 111 [.d (.str x)] (.d (.bool (nameV x))) := by
  refine PSpec.of fn111 (by simp) fun o nk => ?_
  refine WP.seq fun K1 hK1 => ?_
  refine WP.reg tabOk rfl ?_
  refine u_step (o_assign rfl ?_)
  refine u_nil ?_
  refine hK1 _ ?_
  refine WP.seq fun K2 hK2 => ?_
  refine WP.reg tabOk rfl ?_
  refine u_step (o_move rfl ?_)
  refine u_step (o_len_str rfl th9 rfl ?_)
  refine u_step (o_bin_int rfl rfl (by decide) rfl ?_)
  refine u_step (o_move rfl ?_)
  apply u_guard
  · exact GC.t _
  · intro hg
    refine o_move rfl ⟨rfl, rfl, rfl⟩
  apply u_guard
  · exact GC.t _
  · intro hg; try simp only [hg, cnd_true]; try simp only [hg, cnd_true, Bool.true_and]
    refine o_len_str rfl th9 rfl ⟨rfl, rfl, rfl⟩
  apply u_guard
  · exact GC.t _
  · intro hg; try simp only [hg, cnd_true]; try simp only [hg, cnd_true, Bool.true_and]
    refine o_bin_int rfl rfl (by decide) rfl ⟨rfl, rfl, rfl⟩
  refine u_step (o_pick_and rfl rfl rfl ?_)
  refine u_step (o_move rfl ?_)
  apply u_guard
  · exact GC.t _
  · intro hg
    refine o_move rfl ⟨rfl, rfl, rfl⟩
  apply u_guard
  · exact GC.t _
  · intro hg; try simp only [hg, cnd_true]; try simp only [hg, cnd_true, Bool.true_and]
    refine o_pcall (s152 _ _) rfl ⟨rfl, rfl, rfl⟩
  apply u_guard
  · exact GC.t _
  · intro hg; try simp only [hg, cnd_true]; try simp only [hg, cnd_true, Bool.true_and]
    refine o_not rfl ⟨rfl, rfl, rfl⟩
  refine u_step (o_pick_and rfl rfl rfl ?_)
  refine u_step (o_move rfl ?_)
  apply u_guard
  · exact GC.t _
  · intro hg
    refine o_move rfl ⟨rfl, rfl, rfl⟩
  apply u_guard
  · exact GC.t _
  · intro hg; try simp only [hg, cnd_true]; try simp only [hg, cnd_true, Bool.true_and]
    refine o_pcall (s153 _) rfl ⟨rfl, rfl, rfl⟩
  apply u_guard
  · exact GC.t _
  · intro hg; try simp only [hg, cnd_true]; try simp only [hg, cnd_true, Bool.true_and]
    refine o_not rfl ⟨rfl, rfl, rfl⟩
  refine u_step (o_pick_and rfl rfl rfl ?_)
  refine u_step (o_assign rfl ?_)
  refine u_nil ?_
  refine hK2 _ ?_
  refine WP.ret ?_
  refine ret_ok rfl ?_ (by omega) (fun _ _ => rfl)
  -- ret 1
  refine congrArg D.bool ?_
  rw [Bool.eq_iff_iff]
  simp only [nameV, Bool.and_eq_true, decide_eq_true_eq, Bool.not_eq_true', decide_eq_false_iff_not]
  have h1 : List.isPrefixOf [36] x = false ↔ x[0]? ≠ some 36 := by
    cases x with
    | nil => simp [List.isPrefixOf]
    | cons c x =>
      simp only [List.isPrefixOf, List.getElem?_cons_zero, Bool.and_true, ne_eq, Option.some.injEq]
      by_cases h : c = 36
      · subst h; simp
      · have h0 : ((36 : UInt8) == c) = false := by simpa using fun e => h e.symm
        simp [h0, h]
  rw [h1]
  constructor
  · rintro ⟨⟨⟨h2, h3⟩, h4⟩, h5⟩; exact ⟨by omega, by omega, h4, h5⟩
  · rintro ⟨h2, h3, h4, h5⟩; exact ⟨⟨⟨by omega, by omega⟩, h4⟩, h5⟩

theorem fn128 : FnOk Tryz.prog 128 24 [2] (bodyOf Tryz.f128) := ⟨Tryz.f128, Tryz.func128, by kernel_rfl, by decide, by kernel_rfl, by kernel_rfl⟩
theorem s128 (ns : List Str) : PSpec Tryz.prog 128 [.d (.sl 1 (ns.map .str))] (.d (.bool (namesV ns))) := by
  refine PSpec.bd fun hbd => ?_
  have hx : ns.length ≤ 9223372036854775807 := by simpa using hbd.1.1
  refine PSpec.of fn128 (by simp) fun o nk => ?_
  refine WP.seq fun K1 hK1 => ?_
  refine WP.reg tabOk rfl ?_
  refine u_step (o_assign rfl ?_)
  refine u_nil ?_
  refine hK1 _ ?_
  refine WP.seq fun K2 hK2 => ?_
  refine WP.reg tabOk rfl ?_
  refine u_step (g_mm fun o3 hb3 hk3 => ?_)
  refine u_step (o_assignV (v := .raw _) rfl ?_)
  refine u_nil ?_
  refine hK2 _ ?_
  refine WP.seq fun K4 hK4 => ?_
  refine WP.seq fun K5 hK5 => ?_
  refine WP.reg tabOk rfl ?_
  refine u_step (o_move rfl ?_)
  refine u_step (o_len_sl rfl th22 rfl ?_)
  refine u_step (o_move rfl ?_)
  refine u_nil ?_
  refine hK5 _ ?_
  refine WP.block ?_
  refine WP.loopL (ι := Nat × (Nat → Option AO)) (fun ⟨i, o2⟩ => ⟨al [(3, .raw nk), (7, .d (.sl 1 (ns.map .str))), (8, .d (.int .i64 (ns.map D.str).length)), (9, .d (.int .i64 i))], o2, (nk + 1)⟩) (fun ⟨i, o2⟩ => i ≤ ns.length ∧ o2 nk = some (.raw (setOb (ns.take i))) ∧ (∀ t, t < nk → o2 t = o t) ∧ (ns.take i).all nameV = true ∧ (ns.take i).Nodup) (fun ⟨i, o2⟩ => ns.length - i) (fun ⟨i, o2⟩ hA => ?_) ⟨0, o3⟩ ?_ ?_
  ·
    obtain ⟨hle, hob, hfr, hal, hnd⟩ := hA
    refine WP.seq fun K6 hK6 => ?_
    refine WP.reg tabOk rfl ?_
    refine u_step (o_bin_int rfl rfl (by decide) rfl ?_)
    refine u_nil ?_
    refine hK6 _ ?_
    refine WP.seq fun K7 hK7 => ?_
    refine WP.cond rfl (fun hc8 => ?_) (fun hc8 => ?_)
    ·
      try simp only [Q0, Q1, Q2, Q3, Q4, Q5, Q6, Q7, Q8, ge_iff_le, gt_iff_lt] at hc8
      refine WP.skip ?_
      refine hK7 _ ?_
      refine WP.seq fun K9 hK9 => ?_
      refine WP.block ?_
      refine WP.seq fun K10 hK10 => ?_
      refine WP.reg tabOk rfl ?_
      first | refine u_step (o_ia_map rfl rfl th22 rfl th9 rfl (by omega) ?_) | refine u_step (o_ia_vs rfl rfl th22 rfl th9 rfl (by omega) ?_)
      refine u_step (o_ld_el rfl th9 rfl rfl ?_)
      refine u_step (o_assign rfl ?_)
      refine u_nil ?_
      refine hK10 _ ?_
      refine WP.seq fun K11 hK11 => ?_
      refine WP.seq fun K12 hK12 => ?_
      refine WP.reg tabOk rfl ?_
      refine u_step (o_move rfl ?_)
      refine u_step (o_pcall (s111 _) rfl ?_)
      refine u_step (o_not rfl ?_)
      refine u_step (o_move rfl ?_)
      apply u_guard
      · exact GC.f _
      · intro hg
        refine o_moveV (v := .raw _) rfl ⟨rfl, rfl, rfl⟩
      apply u_guard
      · exact GC.f _
      · intro hg
        refine o_move rfl ⟨rfl, rfl, rfl⟩
      apply u_guard
      · exact GC.f _
      · intro hg; try simp only [hg, cnd_true]; try simp only [hg, cnd_true, Bool.true_and]
        refine o_lookup rfl rfl th138 rfl th9 rfl th4 rfl rfl hob ⟨rfl, rfl, rfl⟩
      refine u_step (o_pick_or rfl rfl rfl ?_)
      refine u_nil ?_
      refine hK12 _ ?_
      refine WP.cond rfl (fun hc13 => ?_) (fun hc13 => ?_)
      ·
        try simp only [Q0, Q1, Q2, Q3, Q4, Q5, Q6, Q7, Q8, ge_iff_le, gt_iff_lt] at hc13
        refine WP.seq fun K14 hK14 => ?_
        refine WP.reg tabOk rfl ?_
        refine u_step (o_assign rfl ?_)
        refine u_nil ?_
        refine hK14 _ ?_
        refine WP.ret ?_
        refine ret_ok rfl ?_ (by omega) (fun t ht => (hfr t (by omega)))
        -- ret 1
        rw [names_bad (by omega) hc13]
      ·
        try simp only [Q0, Q1, Q2, Q3, Q4, Q5, Q6, Q7, Q8, ge_iff_le, gt_iff_lt] at hc13
        refine WP.skip ?_
        refine hK11 _ ?_
        refine WP.reg tabOk rfl ?_
        refine u_step (o_moveV (v := .raw _) rfl ?_)
        refine u_step (o_move rfl ?_)
        refine u_step0 (g_mu rfl rfl rfl th138 rfl th9 rfl hob (by simpa using (Bool.or_eq_false_iff.1 hc13).2) fun o15 hb15 hk15 => ?_)
        refine u_nil ?_
        refine hK9 _ ?_
        refine WP.reg tabOk rfl ?_
        refine u_step (o_bin_int rfl rfl (by decide) rfl ?_)
        refine u_step (o_move rfl ?_)
        refine u_nil ?_
        -- back
        have hc := Bool.or_eq_false_iff.1 hc13
        refine ⟨⟨i + 1, o15⟩, ⟨by omega, ?_, (fun t ht => (hk15 t (by omega)).trans ((hfr t (by omega)))), ?_, ?_⟩, by simp only; omega, ?_⟩
        · rw [take_snoc2 (by omega)]; exact hb15
        · rw [all_snoc (by omega), hal]; simpa using hc.1
        · exact nodup_snoc (by omega) hnd (by simpa using hc.2)
        · refine Le.al ?_
          simp only [List.forall_mem_cons]
          exact ⟨rfl, rfl, rfl, cnt (by omega), by simp⟩
    ·
      try simp only [Q0, Q1, Q2, Q3, Q4, Q5, Q6, Q7, Q8, ge_iff_le, gt_iff_lt] at hc8
      refine WP.exit ?_
      refine hK4 _ ?_
      refine WP.seq fun K16 hK16 => ?_
      refine WP.reg tabOk rfl ?_
      refine u_step (o_assign rfl ?_)
      refine u_nil ?_
      refine hK16 _ ?_
      refine WP.ret ?_
      refine ret_ok rfl ?_ (by omega) (fun t ht => (hfr t (by omega)))
      -- ret 2
      rw [names_good (by rwa [List.take_of_length_le (by omega)] at hal) (by rwa [List.take_of_length_le (by omega)] at hnd)]
  ·
    refine ⟨by simp, hb3, (fun t ht => (hk3 t (by omega))), by simp, by simp⟩
  ·
    refine Le.al ?_
    simp only [List.forall_mem_cons]
    exact ⟨rfl, rfl, rfl, rfl, by simp⟩

end Go.Proofs.YtpkcbdhjnnnkbaaGreat.Abs

set_option linter.unusedVariables false
set_option linter.unusedSimpArgs false
set_option maxRecDepth 10000
namespace Go.Proofs.YtpkcbdhjnnnkbaaGreat.Abs
open Go

theorem fn130 : FnOk Tryz.prog 130 6 [2] (bodyOf Tryz.f130) := ⟨Tryz.f130, Tryz.func130, by kernel_rfl, by decide, by kernel_rfl, by kernel_rfl⟩
theorem s130 (x : Val) (h76 : PSpec Tryz.prog 76 [.d (encV x)] (.d (.bool (mayV x)))) : PSpec Tryz.prog 130 [.d (encV x)] (.d (.bool (!mayV x))) := by
  obtain ⟨kd, it, tx, xs, ns⟩ := x
  refine PSpec.of fn130 (by simp) fun o nk => ?_
  refine WP.seq fun K1 hK1 => ?_
  refine WP.reg tabOk rfl ?_
  refine u_step (g_box rfl fun o2 hb2 hk2 => ?_)
  refine u_step (o_assign rfl ?_)
  refine u_nil ?_
  refine hK1 _ ?_
  refine WP.seq fun K3 hK3 => ?_
  refine WP.reg tabOk rfl ?_
  refine u_step (o_ld_agg rfl th27 rfl hb2 rfl rfl rfl ?_)
  refine u_step (o_pcall (h76) rfl ?_)
  refine u_step (o_not rfl ?_)
  refine u_step (o_assign rfl ?_)
  refine u_nil ?_
  refine hK3 _ ?_
  refine WP.ret ?_
  refine ret_ok rfl ?_ (by omega) (fun t ht => (hk2 t (by omega)))
  -- ret 1
  rfl

theorem fn76 : FnOk Tryz.prog 76 109 [2] (bodyOf Tryz.f76) := ⟨Tryz.f76, Tryz.func76, by kernel_rfl, by decide, by kernel_rfl, by kernel_rfl⟩
theorem s76A (m : Nat) : ∀ v : Val, SizeOf.sizeOf v < m → PSpec Tryz.prog 76 [.d (encV v)] (.d (.bool (mayV v))) := by
  induction m with
  | zero => intros; omega
  | succ m ih =>
    rintro ⟨kd, it, tx, xs, ns⟩ hv
    refine PSpec.bd fun hbd => ?_
    refine PSpec.of fn76 (by simp) fun o nk => ?_
    refine WP.seq fun K1 hK1 => ?_
    refine WP.reg tabOk rfl ?_
    refine u_step (g_box rfl fun o2 hb2 hk2 => ?_)
    refine u_step (o_assign rfl ?_)
    refine u_nil ?_
    refine hK1 _ ?_
    refine WP.seq fun K3 hK3 => ?_
    refine WP.reg tabOk rfl ?_
    refine u_step (o_fa_loc rfl th27 rfl rfl th3 (by decide) hb2 ?_)
    refine u_step (o_ld_loc rfl th3 rfl hb2 rfl ?_)
    refine u_step (o_bin_int rfl rfl (by decide) rfl ?_)
    refine u_step (o_move rfl ?_)
    apply u_guard
    · exact GC.f _
    · intro hg
      refine o_fa_loc rfl th27 rfl rfl th3 (by decide) hb2 ⟨rfl, rfl, rfl⟩
    apply u_guard
    · exact GC.f _
    · intro hg; try simp only [hg, cnd_true]; try simp only [hg, cnd_true, Bool.true_and]
      refine o_ld_loc rfl th3 rfl hb2 rfl ⟨rfl, rfl, rfl⟩
    apply u_guard
    · exact GC.f _
    · intro hg; try simp only [hg, cnd_true]; try simp only [hg, cnd_true, Bool.true_and]
      refine o_bin_int rfl rfl (by decide) rfl ⟨rfl, rfl, rfl⟩
    refine u_step (o_pick_or rfl rfl rfl ?_)
    refine u_step (o_assign rfl ?_)
    refine u_nil ?_
    refine hK3 _ ?_
    refine WP.seq fun K4 hK4 => ?_
    refine WP.reg tabOk rfl ?_
    refine u_step (o_fa_loc rfl th27 rfl rfl th3 (by decide) hb2 ?_)
    refine u_step (o_ld_loc rfl th3 rfl hb2 rfl ?_)
    refine u_step (o_bin_int rfl rfl (by decide) rfl ?_)
    refine u_step (o_move rfl ?_)
    apply u_guard
    · exact GC.f _
    · intro hg
      refine o_fa_loc rfl th27 rfl rfl th3 (by decide) hb2 ⟨rfl, rfl, rfl⟩
    apply u_guard
    · exact GC.f _
    · intro hg; try simp only [hg, cnd_true]; try simp only [hg, cnd_true, Bool.true_and]
      refine o_ld_loc rfl th3 rfl hb2 rfl ⟨rfl, rfl, rfl⟩
    apply u_guard
    · exact GC.f _
    · intro hg; try simp only [hg, cnd_true]; try simp only [hg, cnd_true, Bool.true_and]
      refine o_bin_int rfl rfl (by decide) rfl ⟨rfl, rfl, rfl⟩
    refine u_step (o_pick_or rfl rfl rfl ?_)
    refine u_step (o_assign rfl ?_)
    refine u_nil ?_
    refine hK4 _ ?_
    refine WP.seq fun K5 hK5 => ?_
    refine WP.reg tabOk rfl ?_
    refine u_step (o_fa_loc rfl th27 rfl rfl th3 (by decide) hb2 ?_)
    refine u_step (o_ld_loc rfl th3 rfl hb2 rfl ?_)
    refine u_step (o_bin_int rfl rfl (by decide) rfl ?_)
    refine u_step (o_move rfl ?_)
    apply u_guard
    · exact GC.f _
    · intro hg
      refine o_fa_loc rfl th27 rfl rfl th3 (by decide) hb2 ⟨rfl, rfl, rfl⟩
    apply u_guard
    · exact GC.f _
    · intro hg; try simp only [hg, cnd_true]; try simp only [hg, cnd_true, Bool.true_and]
      refine o_ld_loc rfl th3 rfl hb2 rfl ⟨rfl, rfl, rfl⟩
    apply u_guard
    · exact GC.f _
    · intro hg; try simp only [hg, cnd_true]; try simp only [hg, cnd_true, Bool.true_and]
      refine o_bin_int rfl rfl (by decide) rfl ⟨rfl, rfl, rfl⟩
    refine u_step (o_pick_or rfl rfl rfl ?_)
    refine u_step (o_assign rfl ?_)
    refine u_nil ?_
    refine hK5 _ ?_
    refine WP.seq fun K6 hK6 => ?_
    refine WP.block ?_
    refine WP.seq fun K7 hK7 => ?_
    refine WP.reg tabOk rfl ?_
    refine u_step (o_fa_loc rfl th27 rfl rfl th3 (by decide) hb2 ?_)
    refine u_step (o_ld_loc rfl th3 rfl hb2 rfl ?_)
    refine u_step (o_bin_int rfl rfl (by decide) rfl ?_)
    refine u_step (o_move rfl ?_)
    apply u_guard
    · exact GC.f _
    · intro hg
      refine o_fa_loc rfl th27 rfl rfl th3 (by decide) hb2 ⟨rfl, rfl, rfl⟩
    apply u_guard
    · exact GC.f _
    · intro hg; try simp only [hg, cnd_true]; try simp only [hg, cnd_true, Bool.true_and]
      refine o_ld_loc rfl th3 rfl hb2 rfl ⟨rfl, rfl, rfl⟩
    apply u_guard
    · exact GC.f _
    · intro hg; try simp only [hg, cnd_true]; try simp only [hg, cnd_true, Bool.true_and]
      refine o_bin_int rfl rfl (by decide) rfl ⟨rfl, rfl, rfl⟩
    refine u_step (o_pick_or rfl rfl rfl ?_)
    refine u_step (o_assign rfl ?_)
    refine u_nil ?_
    refine hK7 _ ?_
    refine WP.cond rfl (fun hc8 => ?_) (fun hc8 => ?_)
    ·
      try simp only [Q0, Q1, Q2, Q3, Q4, Q5, Q6, Q7, Q8, ge_iff_le, gt_iff_lt] at hc8
      refine WP.seq fun K9 hK9 => ?_
      refine WP.reg tabOk rfl ?_
      refine u_step (o_assign rfl ?_)
      refine u_nil ?_
      refine hK9 _ ?_
      refine WP.ret ?_
      refine ret_ok rfl ?_ (by omega) (fun t ht => (hk2 t (by omega)))
      -- ret 1
      clear hK1 hK3 hK4 hK5 hK6 hK7 hK9
      refine congrArg D.bool ?_
      have e1 := encVs_length xs
      clear hbd ih hv
      rw [Bool.eq_iff_iff]
      have hkd : kd < 1 ∨ 7 < kd ∨ kd = 1 ∨ kd = 2 ∨ kd = 3 ∨ kd = 4 ∨ kd = 5 ∨ kd = 6 ∨ kd = 7 := by omega
      rcases hkd with h | h | rfl | rfl | rfl | rfl | rfl | rfl | rfl <;> simp_all [mayV, maysV_all, kindOk, namesV]
      all_goals grind
    ·
      try simp only [Q0, Q1, Q2, Q3, Q4, Q5, Q6, Q7, Q8, ge_iff_le, gt_iff_lt] at hc8
      refine WP.seq fun K10 hK10 => ?_
      refine WP.seq fun K11 hK11 => ?_
      refine WP.reg tabOk rfl ?_
      refine u_step (o_fa_loc rfl th27 rfl rfl th25 (by decide) hb2 ?_)
      refine u_step (o_ld_loc rfl th25 rfl hb2 rfl ?_)
      refine u_step (o_len_sl rfl th25 rfl ?_)
      refine u_step (o_bin_int rfl rfl (by decide) rfl ?_)
      refine u_step (o_move rfl ?_)
      apply u_guard
      · exact GC.t _
      · intro hg
        refine o_move rfl ⟨rfl, rfl, rfl⟩
      apply u_guard
      · exact GC.t _
      · intro hg; try simp only [hg, cnd_true]; try simp only [hg, cnd_true, Bool.true_and]
        refine o_not rfl ⟨rfl, rfl, rfl⟩
      refine u_step (o_pick_and rfl rfl rfl ?_)
      refine u_step (o_assign rfl ?_)
      refine u_nil ?_
      refine hK11 _ ?_
      refine WP.cond rfl (fun hc12 => ?_) (fun hc12 => ?_)
      ·
        try simp only [Q0, Q1, Q2, Q3, Q4, Q5, Q6, Q7, Q8, ge_iff_le, gt_iff_lt] at hc12
        refine WP.skip ?_
        refine hK10 _ ?_
        refine WP.cond rfl (fun hc13 => ?_) (fun hc13 => ?_)
        ·
          try simp only [Q0, Q1, Q2, Q3, Q4, Q5, Q6, Q7, Q8, ge_iff_le, gt_iff_lt] at hc13
          refine WP.seq fun K14 hK14 => ?_
          refine WP.reg tabOk rfl ?_
          refine u_step (o_assign rfl ?_)
          refine u_nil ?_
          refine hK14 _ ?_
          refine WP.ret ?_
          refine ret_ok rfl ?_ (by omega) (fun t ht => (hk2 t (by omega)))
          -- ret 2
          clear hK1 hK3 hK4 hK5 hK6 hK7 hK10 hK11 hK14
          refine congrArg D.bool ?_
          have e1 := encVs_length xs
          clear hbd ih hv
          rw [Bool.eq_iff_iff]
          have hkd : kd < 1 ∨ 7 < kd ∨ kd = 1 ∨ kd = 2 ∨ kd = 3 ∨ kd = 4 ∨ kd = 5 ∨ kd = 6 ∨ kd = 7 := by omega
          rcases hkd with h | h | rfl | rfl | rfl | rfl | rfl | rfl | rfl <;> simp_all [mayV, maysV_all, kindOk, namesV]
          all_goals grind
        ·
          try simp only [Q0, Q1, Q2, Q3, Q4, Q5, Q6, Q7, Q8, ge_iff_le, gt_iff_lt] at hc13
          refine WP.seq fun K15 hK15 => ?_
          refine WP.reg tabOk rfl ?_
          refine u_step (o_fa_loc rfl th27 rfl rfl th3 (by decide) hb2 ?_)
          refine u_step (o_ld_loc rfl th3 rfl hb2 rfl ?_)
          refine u_step (o_bin_int rfl rfl (by decide) rfl ?_)
          refine u_step (o_move rfl ?_)
          apply u_guard
          · exact GC.t _
          · intro hg
            refine o_fa_loc rfl th27 rfl rfl th3 (by decide) hb2 ⟨rfl, rfl, rfl⟩
          apply u_guard
          · exact GC.t _
          · intro hg; try simp only [hg, cnd_true]; try simp only [hg, cnd_true, Bool.true_and]
            refine o_ld_loc rfl th3 rfl hb2 rfl ⟨rfl, rfl, rfl⟩
          apply u_guard
          · exact GC.t _
          · intro hg; try simp only [hg, cnd_true]; try simp only [hg, cnd_true, Bool.true_and]
            refine o_bin_int rfl rfl (by decide) rfl ⟨rfl, rfl, rfl⟩
          refine u_step (o_pick_and rfl rfl rfl ?_)
          refine u_step (o_move rfl ?_)
          apply u_guard
          · exact GC.t _
          · intro hg
            refine o_fa_loc rfl th27 rfl rfl th3 (by decide) hb2 ⟨rfl, rfl, rfl⟩
          apply u_guard
          · exact GC.t _
          · intro hg; try simp only [hg, cnd_true]; try simp only [hg, cnd_true, Bool.true_and]
            refine o_ld_loc rfl th3 rfl hb2 rfl ⟨rfl, rfl, rfl⟩
          apply u_guard
          · exact GC.t _
          · intro hg; try simp only [hg, cnd_true]; try simp only [hg, cnd_true, Bool.true_and]
            refine o_bin_int rfl rfl (by decide) rfl ⟨rfl, rfl, rfl⟩
          refine u_step (o_pick_and rfl rfl rfl ?_)
          refine u_step (o_assign rfl ?_)
          refine u_nil ?_
          refine hK15 _ ?_
          refine WP.cond rfl (fun hc16 => ?_) (fun hc16 => ?_)
          ·
            try simp only [Q0, Q1, Q2, Q3, Q4, Q5, Q6, Q7, Q8, ge_iff_le, gt_iff_lt] at hc16
            refine WP.seq fun K17 hK17 => ?_
            refine WP.reg tabOk rfl ?_
            refine u_step (o_assign rfl ?_)
            refine u_nil ?_
            refine hK17 _ ?_
            refine WP.ret ?_
            refine ret_ok rfl ?_ (by omega) (fun t ht => (hk2 t (by omega)))
            -- ret 3
            clear hK1 hK3 hK4 hK5 hK6 hK7 hK10 hK11 hK15 hK17
            refine congrArg D.bool ?_
            have e1 := encVs_length xs
            clear hbd ih hv
            rw [Bool.eq_iff_iff]
            have hkd : kd < 1 ∨ 7 < kd ∨ kd = 1 ∨ kd = 2 ∨ kd = 3 ∨ kd = 4 ∨ kd = 5 ∨ kd = 6 ∨ kd = 7 := by omega
            rcases hkd with h | h | rfl | rfl | rfl | rfl | rfl | rfl | rfl <;> simp_all [mayV, maysV_all, kindOk, namesV]
            all_goals grind
          ·
            try simp only [Q0, Q1, Q2, Q3, Q4, Q5, Q6, Q7, Q8, ge_iff_le, gt_iff_lt] at hc16
            refine WP.seq fun K18 hK18 => ?_
            refine WP.reg tabOk rfl ?_
            refine u_step (o_fa_loc rfl th27 rfl rfl th3 (by decide) hb2 ?_)
            refine u_step (o_ld_loc rfl th3 rfl hb2 rfl ?_)
            refine u_step (o_bin_int rfl rfl (by decide) rfl ?_)
            refine u_step (o_move rfl ?_)
            apply u_guard
            · exact GC.t _
            · intro hg
              refine o_fa_loc rfl th27 rfl rfl th22 (by decide) hb2 ⟨rfl, rfl, rfl⟩
            apply u_guard
            · exact GC.t _
            · intro hg; try simp only [hg, cnd_true]; try simp only [hg, cnd_true, Bool.true_and]
              refine o_ld_loc rfl th22 rfl hb2 rfl ⟨rfl, rfl, rfl⟩
            apply u_guard
            · exact GC.t _
            · intro hg; try simp only [hg, cnd_true]; try simp only [hg, cnd_true, Bool.true_and]
              refine o_len_sl rfl th22 rfl ⟨rfl, rfl, rfl⟩
            apply u_guard
            · exact GC.t _
            · intro hg; try simp only [hg, cnd_true]; try simp only [hg, cnd_true, Bool.true_and]
              refine o_bin_int rfl rfl (by decide) rfl ⟨rfl, rfl, rfl⟩
            refine u_step (o_pick_and rfl rfl rfl ?_)
            refine u_step (o_assign rfl ?_)
            refine u_nil ?_
            refine hK18 _ ?_
            refine WP.cond rfl (fun hc19 => ?_) (fun hc19 => ?_)
            ·
              try simp only [Q0, Q1, Q2, Q3, Q4, Q5, Q6, Q7, Q8, ge_iff_le, gt_iff_lt] at hc19
              refine WP.seq fun K20 hK20 => ?_
              refine WP.reg tabOk rfl ?_
              refine u_step (o_assign rfl ?_)
              refine u_nil ?_
              refine hK20 _ ?_
              refine WP.ret ?_
              refine ret_ok rfl ?_ (by omega) (fun t ht => (hk2 t (by omega)))
              -- ret 4
              clear hK1 hK3 hK4 hK5 hK6 hK7 hK10 hK11 hK15 hK18 hK20
              refine congrArg D.bool ?_
              have e1 := encVs_length xs
              clear hbd ih hv
              rw [Bool.eq_iff_iff]
              have hkd : kd < 1 ∨ 7 < kd ∨ kd = 1 ∨ kd = 2 ∨ kd = 3 ∨ kd = 4 ∨ kd = 5 ∨ kd = 6 ∨ kd = 7 := by omega
              rcases hkd with h | h | rfl | rfl | rfl | rfl | rfl | rfl | rfl <;> simp_all [mayV, maysV_all, kindOk, namesV]
              all_goals grind
            ·
              try simp only [Q0, Q1, Q2, Q3, Q4, Q5, Q6, Q7, Q8, ge_iff_le, gt_iff_lt] at hc19
              refine WP.seq fun K21 hK21 => ?_
              refine WP.reg tabOk rfl ?_
              refine u_step (o_fa_loc rfl th27 rfl rfl th3 (by decide) hb2 ?_)
              refine u_step (o_ld_loc rfl th3 rfl hb2 rfl ?_)
              refine u_step (o_bin_int rfl rfl (by decide) rfl ?_)
              refine u_step (o_move rfl ?_)
              apply u_guard
              · exact GC.t _
              · intro hg
                refine o_fa_loc rfl th27 rfl rfl th22 (by decide) hb2 ⟨rfl, rfl, rfl⟩
              apply u_guard
              · exact GC.t _
              · intro hg; try simp only [hg, cnd_true]; try simp only [hg, cnd_true, Bool.true_and]
                refine o_ld_loc rfl th22 rfl hb2 rfl ⟨rfl, rfl, rfl⟩
              apply u_guard
              · exact GC.t _
              · intro hg; try simp only [hg, cnd_true]; try simp only [hg, cnd_true, Bool.true_and]
                refine o_len_sl rfl th22 rfl ⟨rfl, rfl, rfl⟩
              apply u_guard
              · exact GC.t _
              · intro hg
                refine o_fa_loc rfl th27 rfl rfl th25 (by decide) hb2 ⟨rfl, rfl, rfl⟩
              apply u_guard
              · exact GC.t _
              · intro hg; try simp only [hg, cnd_true]; try simp only [hg, cnd_true, Bool.true_and]
                refine o_ld_loc rfl th25 rfl hb2 rfl ⟨rfl, rfl, rfl⟩
              apply u_guard
              · exact GC.t _
              · intro hg; try simp only [hg, cnd_true]; try simp only [hg, cnd_true, Bool.true_and]
                refine o_len_sl rfl th25 rfl ⟨rfl, rfl, rfl⟩
              apply u_guard
              · exact GC.t _
              · intro hg; try simp only [hg, cnd_true]; try simp only [hg, cnd_true, Bool.true_and]
                refine o_bin_int rfl rfl (by decide) rfl ⟨rfl, rfl, rfl⟩
              apply u_guard
              · exact GC.t _
              · intro hg; try simp only [hg, cnd_true]; try simp only [hg, cnd_true, Bool.true_and]
                refine o_move rfl ⟨rfl, rfl, rfl⟩
              apply u_guard
              · exact GC.cf _ _
              · intro hg
                refine o_fa_loc rfl th27 rfl rfl th22 (by decide) hb2 ⟨rfl, rfl, rfl⟩
              apply u_guard
              · exact GC.cf _ _
              · intro hg; try simp only [hg, cnd_true]; try simp only [hg, cnd_true, Bool.true_and]
                refine o_ld_loc rfl th22 rfl hb2 rfl ⟨rfl, rfl, rfl⟩
              apply u_guard
              · exact GC.cf _ _
              · intro hg; try simp only [hg, cnd_true]; try simp only [hg, cnd_true, Bool.true_and]
                refine o_pcall (s128 ns) rfl ⟨rfl, rfl, rfl⟩
              apply u_guard
              · exact GC.cf _ _
              · intro hg; try simp only [hg, cnd_true]; try simp only [hg, cnd_true, Bool.true_and]
                refine o_not rfl ⟨rfl, rfl, rfl⟩
              apply u_guard
              · exact GC.t _
              · intro hg; try simp only [hg, cnd_true]; try simp only [hg, cnd_true, Bool.true_and]
                refine o_pick_or rfl rfl rfl ⟨rfl, rfl, rfl⟩
              refine u_step (o_pick_and rfl rfl rfl ?_)
              refine u_step (o_assign rfl ?_)
              refine u_nil ?_
              refine hK21 _ ?_
              refine WP.cond rfl (fun hc22 => ?_) (fun hc22 => ?_)
              ·
                try simp only [Q0, Q1, Q2, Q3, Q4, Q5, Q6, Q7, Q8, ge_iff_le, gt_iff_lt] at hc22
                refine WP.seq fun K23 hK23 => ?_
                refine WP.reg tabOk rfl ?_
                refine u_step (o_assign rfl ?_)
                refine u_nil ?_
                refine hK23 _ ?_
                refine WP.ret ?_
                refine ret_ok rfl ?_ (by omega) (fun t ht => (hk2 t (by omega)))
                -- ret 5
                clear hK1 hK3 hK4 hK5 hK6 hK7 hK10 hK11 hK15 hK18 hK21 hK23
                refine congrArg D.bool ?_
                have e1 := encVs_length xs
                clear hbd ih hv
                rw [Bool.eq_iff_iff]
                have hkd : kd < 1 ∨ 7 < kd ∨ kd = 1 ∨ kd = 2 ∨ kd = 3 ∨ kd = 4 ∨ kd = 5 ∨ kd = 6 ∨ kd = 7 := by omega
                rcases hkd with h | h | rfl | rfl | rfl | rfl | rfl | rfl | rfl <;> simp_all [mayV, maysV_all, kindOk, namesV]
                all_goals grind
              ·
                try simp only [Q0, Q1, Q2, Q3, Q4, Q5, Q6, Q7, Q8, ge_iff_le, gt_iff_lt] at hc22
                refine WP.skip ?_
                refine hK6 _ ?_
                refine WP.seq fun K24 hK24 => ?_
                refine WP.reg tabOk rfl ?_
                refine u_step (o_fa_loc rfl th27 rfl rfl th25 (by decide) hb2 ?_)
                refine u_step (o_ld_loc rfl th25 rfl hb2 rfl ?_)
                refine u_step (o_scall (s129 xs 130 [] [] (fun x => !mayV x) (fun x hx => s130 x (ih x (by obtain ⟨j, hj, rfl⟩ := List.mem_iff_getElem.1 hx; exact items_lt' hj hv)) _ _)) rfl ?_)
                refine u_step (o_not rfl ?_)
                refine u_step (o_assign rfl ?_)
                refine u_nil ?_
                refine hK24 _ ?_
                refine WP.ret ?_
                refine ret_ok rfl ?_ (by omega) (fun t ht => (hk2 t (by omega)))
                -- ret 6
                clear hK1 hK3 hK4 hK5 hK6 hK7 hK10 hK11 hK15 hK18 hK21 hK24
                refine congrArg D.bool ?_
                have e1 := encVs_length xs
                clear hbd ih hv
                rw [Bool.eq_iff_iff]
                have hkd : kd < 1 ∨ 7 < kd ∨ kd = 1 ∨ kd = 2 ∨ kd = 3 ∨ kd = 4 ∨ kd = 5 ∨ kd = 6 ∨ kd = 7 := by omega
                rcases hkd with h | h | rfl | rfl | rfl | rfl | rfl | rfl | rfl <;> simp_all [mayV, maysV_all, kindOk, namesV]
                all_goals grind
      ·
        try simp only [Q0, Q1, Q2, Q3, Q4, Q5, Q6, Q7, Q8, ge_iff_le, gt_iff_lt] at hc12
        refine WP.seq fun K25 hK25 => ?_
        refine WP.reg tabOk rfl ?_
        refine u_step (o_fa_loc rfl th27 rfl rfl th3 (by decide) hb2 ?_)
        refine u_step (o_ld_loc rfl th3 rfl hb2 rfl ?_)
        refine u_step (o_bin_int rfl rfl (by decide) rfl ?_)
        refine u_step (o_move rfl ?_)
        apply u_guard
        · exact GC.t _
        · intro hg
          refine o_move rfl ⟨rfl, rfl, rfl⟩
        apply u_guard
        · exact GC.t _
        · intro hg; try simp only [hg, cnd_true]; try simp only [hg, cnd_true, Bool.true_and]
          refine o_not rfl ⟨rfl, rfl, rfl⟩
        refine u_step (o_pick_and rfl rfl rfl ?_)
        refine u_step (o_assign rfl ?_)
        refine u_nil ?_
        refine hK25 _ ?_
        refine WP.cond rfl (fun hc26 => ?_) (fun hc26 => ?_)
        ·
          try simp only [Q0, Q1, Q2, Q3, Q4, Q5, Q6, Q7, Q8, ge_iff_le, gt_iff_lt] at hc26
          refine WP.skip ?_
          refine hK10 _ ?_
          refine WP.cond rfl (fun hc27 => ?_) (fun hc27 => ?_)
          ·
            try simp only [Q0, Q1, Q2, Q3, Q4, Q5, Q6, Q7, Q8, ge_iff_le, gt_iff_lt] at hc27
            refine WP.seq fun K28 hK28 => ?_
            refine WP.reg tabOk rfl ?_
            refine u_step (o_assign rfl ?_)
            refine u_nil ?_
            refine hK28 _ ?_
            refine WP.ret ?_
            refine ret_ok rfl ?_ (by omega) (fun t ht => (hk2 t (by omega)))
            -- ret 7
            clear hK1 hK3 hK4 hK5 hK6 hK7 hK10 hK11 hK25 hK28
            refine congrArg D.bool ?_
            have e1 := encVs_length xs
            clear hbd ih hv
            rw [Bool.eq_iff_iff]
            have hkd : kd < 1 ∨ 7 < kd ∨ kd = 1 ∨ kd = 2 ∨ kd = 3 ∨ kd = 4 ∨ kd = 5 ∨ kd = 6 ∨ kd = 7 := by omega
            rcases hkd with h | h | rfl | rfl | rfl | rfl | rfl | rfl | rfl <;> simp_all [mayV, maysV_all, kindOk, namesV]
            all_goals grind
          ·
            try simp only [Q0, Q1, Q2, Q3, Q4, Q5, Q6, Q7, Q8, ge_iff_le, gt_iff_lt] at hc27
            refine WP.seq fun K29 hK29 => ?_
            refine WP.reg tabOk rfl ?_
            refine u_step (o_fa_loc rfl th27 rfl rfl th3 (by decide) hb2 ?_)
            refine u_step (o_ld_loc rfl th3 rfl hb2 rfl ?_)
            refine u_step (o_bin_int rfl rfl (by decide) rfl ?_)
            refine u_step (o_move rfl ?_)
            apply u_guard
            · exact GC.t _
            · intro hg
              refine o_fa_loc rfl th27 rfl rfl th3 (by decide) hb2 ⟨rfl, rfl, rfl⟩
            apply u_guard
            · exact GC.t _
            · intro hg; try simp only [hg, cnd_true]; try simp only [hg, cnd_true, Bool.true_and]
              refine o_ld_loc rfl th3 rfl hb2 rfl ⟨rfl, rfl, rfl⟩
            apply u_guard
            · exact GC.t _
            · intro hg; try simp only [hg, cnd_true]; try simp only [hg, cnd_true, Bool.true_and]
              refine o_bin_int rfl rfl (by decide) rfl ⟨rfl, rfl, rfl⟩
            refine u_step (o_pick_and rfl rfl rfl ?_)
            refine u_step (o_move rfl ?_)
            apply u_guard
            · exact GC.t _
            · intro hg
              refine o_fa_loc rfl th27 rfl rfl th3 (by decide) hb2 ⟨rfl, rfl, rfl⟩
            apply u_guard
            · exact GC.t _
            · intro hg; try simp only [hg, cnd_true]; try simp only [hg, cnd_true, Bool.true_and]
              refine o_ld_loc rfl th3 rfl hb2 rfl ⟨rfl, rfl, rfl⟩
            apply u_guard
            · exact GC.t _
            · intro hg; try simp only [hg, cnd_true]; try simp only [hg, cnd_true, Bool.true_and]
              refine o_bin_int rfl rfl (by decide) rfl ⟨rfl, rfl, rfl⟩
            refine u_step (o_pick_and rfl rfl rfl ?_)
            refine u_step (o_assign rfl ?_)
            refine u_nil ?_
            refine hK29 _ ?_
            refine WP.cond rfl (fun hc30 => ?_) (fun hc30 => ?_)
            ·
              try simp only [Q0, Q1, Q2, Q3, Q4, Q5, Q6, Q7, Q8, ge_iff_le, gt_iff_lt] at hc30
              refine WP.seq fun K31 hK31 => ?_
              refine WP.reg tabOk rfl ?_
              refine u_step (o_assign rfl ?_)
              refine u_nil ?_
              refine hK31 _ ?_
              refine WP.ret ?_
              refine ret_ok rfl ?_ (by omega) (fun t ht => (hk2 t (by omega)))
              -- ret 8
              clear hK1 hK3 hK4 hK5 hK6 hK7 hK10 hK11 hK25 hK29 hK31
              refine congrArg D.bool ?_
              have e1 := encVs_length xs
              clear hbd ih hv
              rw [Bool.eq_iff_iff]
              have hkd : kd < 1 ∨ 7 < kd ∨ kd = 1 ∨ kd = 2 ∨ kd = 3 ∨ kd = 4 ∨ kd = 5 ∨ kd = 6 ∨ kd = 7 := by omega
              rcases hkd with h | h | rfl | rfl | rfl | rfl | rfl | rfl | rfl <;> simp_all [mayV, maysV_all, kindOk, namesV]
              all_goals grind
            ·
              try simp only [Q0, Q1, Q2, Q3, Q4, Q5, Q6, Q7, Q8, ge_iff_le, gt_iff_lt] at hc30
              refine WP.seq fun K32 hK32 => ?_
              refine WP.reg tabOk rfl ?_
              refine u_step (o_fa_loc rfl th27 rfl rfl th3 (by decide) hb2 ?_)
              refine u_step (o_ld_loc rfl th3 rfl hb2 rfl ?_)
              refine u_step (o_bin_int rfl rfl (by decide) rfl ?_)
              refine u_step (o_move rfl ?_)
              apply u_guard
              · exact GC.t _
              · intro hg
                refine o_fa_loc rfl th27 rfl rfl th22 (by decide) hb2 ⟨rfl, rfl, rfl⟩
              apply u_guard
              · exact GC.t _
              · intro hg; try simp only [hg, cnd_true]; try simp only [hg, cnd_true, Bool.true_and]
                refine o_ld_loc rfl th22 rfl hb2 rfl ⟨rfl, rfl, rfl⟩
              apply u_guard
              · exact GC.t _
              · intro hg; try simp only [hg, cnd_true]; try simp only [hg, cnd_true, Bool.true_and]
                refine o_len_sl rfl th22 rfl ⟨rfl, rfl, rfl⟩
              apply u_guard
              · exact GC.t _
              · intro hg; try simp only [hg, cnd_true]; try simp only [hg, cnd_true, Bool.true_and]
                refine o_bin_int rfl rfl (by decide) rfl ⟨rfl, rfl, rfl⟩
              refine u_step (o_pick_and rfl rfl rfl ?_)
              refine u_step (o_assign rfl ?_)
              refine u_nil ?_
              refine hK32 _ ?_
              refine WP.cond rfl (fun hc33 => ?_) (fun hc33 => ?_)
              ·
                try simp only [Q0, Q1, Q2, Q3, Q4, Q5, Q6, Q7, Q8, ge_iff_le, gt_iff_lt] at hc33
                refine WP.seq fun K34 hK34 => ?_
                refine WP.reg tabOk rfl ?_
                refine u_step (o_assign rfl ?_)
                refine u_nil ?_
                refine hK34 _ ?_
                refine WP.ret ?_
                refine ret_ok rfl ?_ (by omega) (fun t ht => (hk2 t (by omega)))
                -- ret 9
                clear hK1 hK3 hK4 hK5 hK6 hK7 hK10 hK11 hK25 hK29 hK32 hK34
                refine congrArg D.bool ?_
                have e1 := encVs_length xs
                clear hbd ih hv
                rw [Bool.eq_iff_iff]
                have hkd : kd < 1 ∨ 7 < kd ∨ kd = 1 ∨ kd = 2 ∨ kd = 3 ∨ kd = 4 ∨ kd = 5 ∨ kd = 6 ∨ kd = 7 := by omega
                rcases hkd with h | h | rfl | rfl | rfl | rfl | rfl | rfl | rfl <;> simp_all [mayV, maysV_all, kindOk, namesV]
                all_goals grind
              ·
                try simp only [Q0, Q1, Q2, Q3, Q4, Q5, Q6, Q7, Q8, ge_iff_le, gt_iff_lt] at hc33
                refine WP.seq fun K35 hK35 => ?_
                refine WP.reg tabOk rfl ?_
                refine u_step (o_fa_loc rfl th27 rfl rfl th3 (by decide) hb2 ?_)
                refine u_step (o_ld_loc rfl th3 rfl hb2 rfl ?_)
                refine u_step (o_bin_int rfl rfl (by decide) rfl ?_)
                refine u_step (o_move rfl ?_)
                apply u_guard
                · exact GC.t _
                · intro hg
                  refine o_fa_loc rfl th27 rfl rfl th22 (by decide) hb2 ⟨rfl, rfl, rfl⟩
                apply u_guard
                · exact GC.t _
                · intro hg; try simp only [hg, cnd_true]; try simp only [hg, cnd_true, Bool.true_and]
                  refine o_ld_loc rfl th22 rfl hb2 rfl ⟨rfl, rfl, rfl⟩
                apply u_guard
                · exact GC.t _
                · intro hg; try simp only [hg, cnd_true]; try simp only [hg, cnd_true, Bool.true_and]
                  refine o_len_sl rfl th22 rfl ⟨rfl, rfl, rfl⟩
                apply u_guard
                · exact GC.t _
                · intro hg
                  refine o_fa_loc rfl th27 rfl rfl th25 (by decide) hb2 ⟨rfl, rfl, rfl⟩
                apply u_guard
                · exact GC.t _
                · intro hg; try simp only [hg, cnd_true]; try simp only [hg, cnd_true, Bool.true_and]
                  refine o_ld_loc rfl th25 rfl hb2 rfl ⟨rfl, rfl, rfl⟩
                apply u_guard
                · exact GC.t _
                · intro hg; try simp only [hg, cnd_true]; try simp only [hg, cnd_true, Bool.true_and]
                  refine o_len_sl rfl th25 rfl ⟨rfl, rfl, rfl⟩
                apply u_guard
                · exact GC.t _
                · intro hg; try simp only [hg, cnd_true]; try simp only [hg, cnd_true, Bool.true_and]
                  refine o_bin_int rfl rfl (by decide) rfl ⟨rfl, rfl, rfl⟩
                apply u_guard
                · exact GC.t _
                · intro hg; try simp only [hg, cnd_true]; try simp only [hg, cnd_true, Bool.true_and]
                  refine o_move rfl ⟨rfl, rfl, rfl⟩
                apply u_guard
                · exact GC.cf _ _
                · intro hg
                  refine o_fa_loc rfl th27 rfl rfl th22 (by decide) hb2 ⟨rfl, rfl, rfl⟩
                apply u_guard
                · exact GC.cf _ _
                · intro hg; try simp only [hg, cnd_true]; try simp only [hg, cnd_true, Bool.true_and]
                  refine o_ld_loc rfl th22 rfl hb2 rfl ⟨rfl, rfl, rfl⟩
                apply u_guard
                · exact GC.cf _ _
                · intro hg; try simp only [hg, cnd_true]; try simp only [hg, cnd_true, Bool.true_and]
                  refine o_pcall (s128 ns) rfl ⟨rfl, rfl, rfl⟩
                apply u_guard
                · exact GC.cf _ _
                · intro hg; try simp only [hg, cnd_true]; try simp only [hg, cnd_true, Bool.true_and]
                  refine o_not rfl ⟨rfl, rfl, rfl⟩
                apply u_guard
                · exact GC.t _
                · intro hg; try simp only [hg, cnd_true]; try simp only [hg, cnd_true, Bool.true_and]
                  refine o_pick_or rfl rfl rfl ⟨rfl, rfl, rfl⟩
                refine u_step (o_pick_and rfl rfl rfl ?_)
                refine u_step (o_assign rfl ?_)
                refine u_nil ?_
                refine hK35 _ ?_
                refine WP.cond rfl (fun hc36 => ?_) (fun hc36 => ?_)
                ·
                  try simp only [Q0, Q1, Q2, Q3, Q4, Q5, Q6, Q7, Q8, ge_iff_le, gt_iff_lt] at hc36
                  refine WP.seq fun K37 hK37 => ?_
                  refine WP.reg tabOk rfl ?_
                  refine u_step (o_assign rfl ?_)
                  refine u_nil ?_
                  refine hK37 _ ?_
                  refine WP.ret ?_
                  refine ret_ok rfl ?_ (by omega) (fun t ht => (hk2 t (by omega)))
                  -- ret 10
                  clear hK1 hK3 hK4 hK5 hK6 hK7 hK10 hK11 hK25 hK29 hK32 hK35 hK37
                  refine congrArg D.bool ?_
                  have e1 := encVs_length xs
                  clear hbd ih hv
                  rw [Bool.eq_iff_iff]
                  have hkd : kd < 1 ∨ 7 < kd ∨ kd = 1 ∨ kd = 2 ∨ kd = 3 ∨ kd = 4 ∨ kd = 5 ∨ kd = 6 ∨ kd = 7 := by omega
                  rcases hkd with h | h | rfl | rfl | rfl | rfl | rfl | rfl | rfl <;> simp_all [mayV, maysV_all, kindOk, namesV]
                  all_goals grind
                ·
                  try simp only [Q0, Q1, Q2, Q3, Q4, Q5, Q6, Q7, Q8, ge_iff_le, gt_iff_lt] at hc36
                  refine WP.skip ?_
                  refine hK6 _ ?_
                  refine WP.seq fun K38 hK38 => ?_
                  refine WP.reg tabOk rfl ?_
                  refine u_step (o_fa_loc rfl th27 rfl rfl th25 (by decide) hb2 ?_)
                  refine u_step (o_ld_loc rfl th25 rfl hb2 rfl ?_)
                  refine u_step (o_scall (s129 xs 130 [] [] (fun x => !mayV x) (fun x hx => s130 x (ih x (by obtain ⟨j, hj, rfl⟩ := List.mem_iff_getElem.1 hx; exact items_lt' hj hv)) _ _)) rfl ?_)
                  refine u_step (o_not rfl ?_)
                  refine u_step (o_assign rfl ?_)
                  refine u_nil ?_
                  refine hK38 _ ?_
                  refine WP.ret ?_
                  refine ret_ok rfl ?_ (by omega) (fun t ht => (hk2 t (by omega)))
                  -- ret 11
                  clear hK1 hK3 hK4 hK5 hK6 hK7 hK10 hK11 hK25 hK29 hK32 hK35 hK38
                  refine congrArg D.bool ?_
                  have e1 := encVs_length xs
                  clear hbd ih hv
                  rw [Bool.eq_iff_iff]
                  have hkd : kd < 1 ∨ 7 < kd ∨ kd = 1 ∨ kd = 2 ∨ kd = 3 ∨ kd = 4 ∨ kd = 5 ∨ kd = 6 ∨ kd = 7 := by omega
                  rcases hkd with h | h | rfl | rfl | rfl | rfl | rfl | rfl | rfl <;> simp_all [mayV, maysV_all, kindOk, namesV]
                  all_goals grind
        ·
          try simp only [Q0, Q1, Q2, Q3, Q4, Q5, Q6, Q7, Q8, ge_iff_le, gt_iff_lt] at hc26
          refine WP.reg tabOk rfl ?_
          refine u_step (o_fa_loc rfl th27 rfl rfl th9 (by decide) hb2 ?_)
          refine u_step (o_ld_loc rfl th9 rfl hb2 rfl ?_)
          refine u_step (o_bin_str rfl (show _ = SV.d (.str []) from rfl) rfl ?_)
          refine u_step (o_move rfl ?_)
          apply u_guard
          · exact GC.t _
          · intro hg
            refine o_move rfl ⟨rfl, rfl, rfl⟩
          apply u_guard
          · exact GC.t _
          · intro hg; try simp only [hg, cnd_true]; try simp only [hg, cnd_true, Bool.true_and]
            refine o_not rfl ⟨rfl, rfl, rfl⟩
          refine u_step (o_pick_and rfl rfl rfl ?_)
          refine u_step (o_assign rfl ?_)
          refine u_nil ?_
          refine hK10 _ ?_
          refine WP.cond rfl (fun hc39 => ?_) (fun hc39 => ?_)
          ·
            try simp only [Q0, Q1, Q2, Q3, Q4, Q5, Q6, Q7, Q8, ge_iff_le, gt_iff_lt] at hc39
            refine WP.seq fun K40 hK40 => ?_
            refine WP.reg tabOk rfl ?_
            refine u_step (o_assign rfl ?_)
            refine u_nil ?_
            refine hK40 _ ?_
            refine WP.ret ?_
            refine ret_ok rfl ?_ (by omega) (fun t ht => (hk2 t (by omega)))
            -- ret 12
            clear hK1 hK3 hK4 hK5 hK6 hK7 hK10 hK11 hK25 hK40
            refine congrArg D.bool ?_
            have e1 := encVs_length xs
            clear hbd ih hv
            rw [Bool.eq_iff_iff]
            have hkd : kd < 1 ∨ 7 < kd ∨ kd = 1 ∨ kd = 2 ∨ kd = 3 ∨ kd = 4 ∨ kd = 5 ∨ kd = 6 ∨ kd = 7 := by omega
            rcases hkd with h | h | rfl | rfl | rfl | rfl | rfl | rfl | rfl <;> simp_all [mayV, maysV_all, kindOk, namesV]
            all_goals grind
          ·
            try simp only [Q0, Q1, Q2, Q3, Q4, Q5, Q6, Q7, Q8, ge_iff_le, gt_iff_lt] at hc39
            refine WP.seq fun K41 hK41 => ?_
            refine WP.reg tabOk rfl ?_
            refine u_step (o_fa_loc rfl th27 rfl rfl th3 (by decide) hb2 ?_)
            refine u_step (o_ld_loc rfl th3 rfl hb2 rfl ?_)
            refine u_step (o_bin_int rfl rfl (by decide) rfl ?_)
            refine u_step (o_move rfl ?_)
            apply u_guard
            · exact GC.t _
            · intro hg
              refine o_fa_loc rfl th27 rfl rfl th3 (by decide) hb2 ⟨rfl, rfl, rfl⟩
            apply u_guard
            · exact GC.t _
            · intro hg; try simp only [hg, cnd_true]; try simp only [hg, cnd_true, Bool.true_and]
              refine o_ld_loc rfl th3 rfl hb2 rfl ⟨rfl, rfl, rfl⟩
            apply u_guard
            · exact GC.t _
            · intro hg; try simp only [hg, cnd_true]; try simp only [hg, cnd_true, Bool.true_and]
              refine o_bin_int rfl rfl (by decide) rfl ⟨rfl, rfl, rfl⟩
            refine u_step (o_pick_and rfl rfl rfl ?_)
            refine u_step (o_move rfl ?_)
            apply u_guard
            · exact GC.t _
            · intro hg
              refine o_fa_loc rfl th27 rfl rfl th3 (by decide) hb2 ⟨rfl, rfl, rfl⟩
            apply u_guard
            · exact GC.t _
            · intro hg; try simp only [hg, cnd_true]; try simp only [hg, cnd_true, Bool.true_and]
              refine o_ld_loc rfl th3 rfl hb2 rfl ⟨rfl, rfl, rfl⟩
            apply u_guard
            · exact GC.t _
            · intro hg; try simp only [hg, cnd_true]; try simp only [hg, cnd_true, Bool.true_and]
              refine o_bin_int rfl rfl (by decide) rfl ⟨rfl, rfl, rfl⟩
            refine u_step (o_pick_and rfl rfl rfl ?_)
            refine u_step (o_assign rfl ?_)
            refine u_nil ?_
            refine hK41 _ ?_
            refine WP.cond rfl (fun hc42 => ?_) (fun hc42 => ?_)
            ·
              try simp only [Q0, Q1, Q2, Q3, Q4, Q5, Q6, Q7, Q8, ge_iff_le, gt_iff_lt] at hc42
              refine WP.seq fun K43 hK43 => ?_
              refine WP.reg tabOk rfl ?_
              refine u_step (o_assign rfl ?_)
              refine u_nil ?_
              refine hK43 _ ?_
              refine WP.ret ?_
              refine ret_ok rfl ?_ (by omega) (fun t ht => (hk2 t (by omega)))
              -- ret 13
              clear hK1 hK3 hK4 hK5 hK6 hK7 hK10 hK11 hK25 hK41 hK43
              refine congrArg D.bool ?_
              have e1 := encVs_length xs
              clear hbd ih hv
              rw [Bool.eq_iff_iff]
              have hkd : kd < 1 ∨ 7 < kd ∨ kd = 1 ∨ kd = 2 ∨ kd = 3 ∨ kd = 4 ∨ kd = 5 ∨ kd = 6 ∨ kd = 7 := by omega
              rcases hkd with h | h | rfl | rfl | rfl | rfl | rfl | rfl | rfl <;> simp_all [mayV, maysV_all, kindOk, namesV]
              all_goals grind
            ·
              try simp only [Q0, Q1, Q2, Q3, Q4, Q5, Q6, Q7, Q8, ge_iff_le, gt_iff_lt] at hc42
              refine WP.seq fun K44 hK44 => ?_
              refine WP.reg tabOk rfl ?_
              refine u_step (o_fa_loc rfl th27 rfl rfl th3 (by decide) hb2 ?_)
              refine u_step (o_ld_loc rfl th3 rfl hb2 rfl ?_)
              refine u_step (o_bin_int rfl rfl (by decide) rfl ?_)
              refine u_step (o_move rfl ?_)
              apply u_guard
              · exact GC.t _
              · intro hg
                refine o_fa_loc rfl th27 rfl rfl th22 (by decide) hb2 ⟨rfl, rfl, rfl⟩
              apply u_guard
              · exact GC.t _
              · intro hg; try simp only [hg, cnd_true]; try simp only [hg, cnd_true, Bool.true_and]
                refine o_ld_loc rfl th22 rfl hb2 rfl ⟨rfl, rfl, rfl⟩
              apply u_guard
              · exact GC.t _
              · intro hg; try simp only [hg, cnd_true]; try simp only [hg, cnd_true, Bool.true_and]
                refine o_len_sl rfl th22 rfl ⟨rfl, rfl, rfl⟩
              apply u_guard
              · exact GC.t _
              · intro hg; try simp only [hg, cnd_true]; try simp only [hg, cnd_true, Bool.true_and]
                refine o_bin_int rfl rfl (by decide) rfl ⟨rfl, rfl, rfl⟩
              refine u_step (o_pick_and rfl rfl rfl ?_)
              refine u_step (o_assign rfl ?_)
              refine u_nil ?_
              refine hK44 _ ?_
              refine WP.cond rfl (fun hc45 => ?_) (fun hc45 => ?_)
              ·
                try simp only [Q0, Q1, Q2, Q3, Q4, Q5, Q6, Q7, Q8, ge_iff_le, gt_iff_lt] at hc45
                refine WP.seq fun K46 hK46 => ?_
                refine WP.reg tabOk rfl ?_
                refine u_step (o_assign rfl ?_)
                refine u_nil ?_
                refine hK46 _ ?_
                refine WP.ret ?_
                refine ret_ok rfl ?_ (by omega) (fun t ht => (hk2 t (by omega)))
                -- ret 14
                clear hK1 hK3 hK4 hK5 hK6 hK7 hK10 hK11 hK25 hK41 hK44 hK46
                refine congrArg D.bool ?_
                have e1 := encVs_length xs
                clear hbd ih hv
                rw [Bool.eq_iff_iff]
                have hkd : kd < 1 ∨ 7 < kd ∨ kd = 1 ∨ kd = 2 ∨ kd = 3 ∨ kd = 4 ∨ kd = 5 ∨ kd = 6 ∨ kd = 7 := by omega
                rcases hkd with h | h | rfl | rfl | rfl | rfl | rfl | rfl | rfl <;> simp_all [mayV, maysV_all, kindOk, namesV]
                all_goals grind
              ·
                try simp only [Q0, Q1, Q2, Q3, Q4, Q5, Q6, Q7, Q8, ge_iff_le, gt_iff_lt] at hc45
                refine WP.seq fun K47 hK47 => ?_
                refine WP.reg tabOk rfl ?_
                refine u_step (o_fa_loc rfl th27 rfl rfl th3 (by decide) hb2 ?_)
                refine u_step (o_ld_loc rfl th3 rfl hb2 rfl ?_)
                refine u_step (o_bin_int rfl rfl (by decide) rfl ?_)
                refine u_step (o_move rfl ?_)
                apply u_guard
                · exact GC.t _
                · intro hg
                  refine o_fa_loc rfl th27 rfl rfl th22 (by decide) hb2 ⟨rfl, rfl, rfl⟩
                apply u_guard
                · exact GC.t _
                · intro hg; try simp only [hg, cnd_true]; try simp only [hg, cnd_true, Bool.true_and]
                  refine o_ld_loc rfl th22 rfl hb2 rfl ⟨rfl, rfl, rfl⟩
                apply u_guard
                · exact GC.t _
                · intro hg; try simp only [hg, cnd_true]; try simp only [hg, cnd_true, Bool.true_and]
                  refine o_len_sl rfl th22 rfl ⟨rfl, rfl, rfl⟩
                apply u_guard
                · exact GC.t _
                · intro hg
                  refine o_fa_loc rfl th27 rfl rfl th25 (by decide) hb2 ⟨rfl, rfl, rfl⟩
                apply u_guard
                · exact GC.t _
                · intro hg; try simp only [hg, cnd_true]; try simp only [hg, cnd_true, Bool.true_and]
                  refine o_ld_loc rfl th25 rfl hb2 rfl ⟨rfl, rfl, rfl⟩
                apply u_guard
                · exact GC.t _
                · intro hg; try simp only [hg, cnd_true]; try simp only [hg, cnd_true, Bool.true_and]
                  refine o_len_sl rfl th25 rfl ⟨rfl, rfl, rfl⟩
                apply u_guard
                · exact GC.t _
                · intro hg; try simp only [hg, cnd_true]; try simp only [hg, cnd_true, Bool.true_and]
                  refine o_bin_int rfl rfl (by decide) rfl ⟨rfl, rfl, rfl⟩
                apply u_guard
                · exact GC.t _
                · intro hg; try simp only [hg, cnd_true]; try simp only [hg, cnd_true, Bool.true_and]
                  refine o_move rfl ⟨rfl, rfl, rfl⟩
                apply u_guard
                · exact GC.cf _ _
                · intro hg
                  refine o_fa_loc rfl th27 rfl rfl th22 (by decide) hb2 ⟨rfl, rfl, rfl⟩
                apply u_guard
                · exact GC.cf _ _
                · intro hg; try simp only [hg, cnd_true]; try simp only [hg, cnd_true, Bool.true_and]
                  refine o_ld_loc rfl th22 rfl hb2 rfl ⟨rfl, rfl, rfl⟩
                apply u_guard
                · exact GC.cf _ _
                · intro hg; try simp only [hg, cnd_true]; try simp only [hg, cnd_true, Bool.true_and]
                  refine o_pcall (s128 ns) rfl ⟨rfl, rfl, rfl⟩
                apply u_guard
                · exact GC.cf _ _
                · intro hg; try simp only [hg, cnd_true]; try simp only [hg, cnd_true, Bool.true_and]
                  refine o_not rfl ⟨rfl, rfl, rfl⟩
                apply u_guard
                · exact GC.t _
                · intro hg; try simp only [hg, cnd_true]; try simp only [hg, cnd_true, Bool.true_and]
                  refine o_pick_or rfl rfl rfl ⟨rfl, rfl, rfl⟩
                refine u_step (o_pick_and rfl rfl rfl ?_)
                refine u_step (o_assign rfl ?_)
                refine u_nil ?_
                refine hK47 _ ?_
                refine WP.cond rfl (fun hc48 => ?_) (fun hc48 => ?_)
                ·
                  try simp only [Q0, Q1, Q2, Q3, Q4, Q5, Q6, Q7, Q8, ge_iff_le, gt_iff_lt] at hc48
                  refine WP.seq fun K49 hK49 => ?_
                  refine WP.reg tabOk rfl ?_
                  refine u_step (o_assign rfl ?_)
                  refine u_nil ?_
                  refine hK49 _ ?_
                  refine WP.ret ?_
                  refine ret_ok rfl ?_ (by omega) (fun t ht => (hk2 t (by omega)))
                  -- ret 15
                  clear hK1 hK3 hK4 hK5 hK6 hK7 hK10 hK11 hK25 hK41 hK44 hK47 hK49
                  refine congrArg D.bool ?_
                  have e1 := encVs_length xs
                  clear hbd ih hv
                  rw [Bool.eq_iff_iff]
                  have hkd : kd < 1 ∨ 7 < kd ∨ kd = 1 ∨ kd = 2 ∨ kd = 3 ∨ kd = 4 ∨ kd = 5 ∨ kd = 6 ∨ kd = 7 := by omega
                  rcases hkd with h | h | rfl | rfl | rfl | rfl | rfl | rfl | rfl <;> simp_all [mayV, maysV_all, kindOk, namesV]
                  all_goals grind
                ·
                  try simp only [Q0, Q1, Q2, Q3, Q4, Q5, Q6, Q7, Q8, ge_iff_le, gt_iff_lt] at hc48
                  refine WP.skip ?_
                  refine hK6 _ ?_
                  refine WP.seq fun K50 hK50 => ?_
                  refine WP.reg tabOk rfl ?_
                  refine u_step (o_fa_loc rfl th27 rfl rfl th25 (by decide) hb2 ?_)
                  refine u_step (o_ld_loc rfl th25 rfl hb2 rfl ?_)
                  refine u_step (o_scall (s129 xs 130 [] [] (fun x => !mayV x) (fun x hx => s130 x (ih x (by obtain ⟨j, hj, rfl⟩ := List.mem_iff_getElem.1 hx; exact items_lt' hj hv)) _ _)) rfl ?_)
                  refine u_step (o_not rfl ?_)
                  refine u_step (o_assign rfl ?_)
                  refine u_nil ?_
                  refine hK50 _ ?_
                  refine WP.ret ?_
                  refine ret_ok rfl ?_ (by omega) (fun t ht => (hk2 t (by omega)))
                  -- ret 16
                  clear hK1 hK3 hK4 hK5 hK6 hK7 hK10 hK11 hK25 hK41 hK44 hK47 hK50
                  refine congrArg D.bool ?_
                  have e1 := encVs_length xs
                  clear hbd ih hv
                  rw [Bool.eq_iff_iff]
                  have hkd : kd < 1 ∨ 7 < kd ∨ kd = 1 ∨ kd = 2 ∨ kd = 3 ∨ kd = 4 ∨ kd = 5 ∨ kd = 6 ∨ kd = 7 := by omega
                  rcases hkd with h | h | rfl | rfl | rfl | rfl | rfl | rfl | rfl <;> simp_all [mayV, maysV_all, kindOk, namesV]
                  all_goals grind
theorem s76 (v : Val) : PSpec Tryz.prog 76 [.d (encV v)] (.d (.bool (mayV v))) := s76A _ v (Nat.lt_succ_self _)

end Go.Proofs.YtpkcbdhjnnnkbaaGreat.Abs

set_option linter.unusedVariables false
set_option linter.unusedSimpArgs false
set_option maxRecDepth 10000
namespace Go.Proofs.YtpkcbdhjnnnkbaaGreat.Abs
open Go
theorem fn140 : FnOk Tryz.prog 140 20 [2] (bodyOf Tryz.f140) := ⟨Tryz.f140, Tryz.func140, by kernel_rfl, by decide, by kernel_rfl, by kernel_rfl⟩
theorem s140 (u : Nat) (hu : u < 18446744073709551616) : RSpec Tryz.prog 140 [.d (.int .u64 u)] 5 1 (bytesD (grp u)) := by
  refine RSpec.of fn140 (by simp) fun o nk => ?_
  refine WP.seq fun K1 hK1 => ?_
  refine WP.reg tabOk rfl ?_
  refine u_step (o_assign rfl ?_)
  refine u_nil ?_
  refine hK1 _ ?_
  refine WP.seq fun K3 hK3 => ?_
  refine WP.reg tabOk rfl ?_
  refine u_step (o_assign rfl ?_)
  refine u_nil ?_
  refine hK3 _ ?_
  refine WP.seq fun K2 hK2 => ?_
  refine WP.block ?_
  refine WP.loopL (ι := Nat × Str × SV × (Nat → Option AO) × Nat) (fun ⟨m, acc, c, o2, nk2⟩ => ⟨al [(0, .d (.int .u64 m)), (3, c)], o2, nk2⟩)
    (fun ⟨m, acc, c, o2, nk2⟩ => acc ++ grp m = grp u ∧ m ≤ u ∧ nk ≤ nk2 ∧ (∃ q, dstOf o2 5 1 c = some (q, bytesD acc) ∧ ∀ t, q = some t → nk ≤ t ∧ t < nk2) ∧ ∀ t, t < nk → o2 t = o t)
    (fun ⟨m, _, _, _, _⟩ => m) (fun ⟨m, acc, c, o2, nk2⟩ hA => ?_) (u, [], .d .nil, o, nk) ?_ ?_
  · obtain ⟨hac, hm, hnk, ⟨q, hd, hq⟩, hfr⟩ := hA
    have hlen : acc.length + (grp m).length = (grp u).length := by rw [← hac]; simp
    have hgl : (grp u).length ≤ 10 := grp_len 10 u (by omega) (by omega)
    have hgm : 1 ≤ (grp m).length := by
      by_cases h : m < 128
      · rw [grp_lt h]; simp
      · rw [grp_ge h]; simp
    refine WP.seq fun K4 hK4 => ?_
    refine WP.seq fun K5 hK5 => ?_
    refine WP.reg tabOk rfl ?_
    refine u_step (o_move rfl ?_)
    refine u_step (o_bin_int rfl rfl (by decide) rfl ?_)
    refine u_nil ?_
    refine hK5 _ ?_
    refine WP.cond rfl (fun hc => ?_) (fun hc => ?_)
    · simp only [decide_eq_true_eq] at hc
      have hge : ¬ m < 128 := by omega
      refine WP.skip ?_
      refine hK4 _ ?_
      refine WP.block ?_
      refine WP.seq fun K6 hK6 => ?_
      refine WP.reg tabOk rfl ?_
      refine u_step (o_moveV (v := c) rfl ?_)
      refine u_step (o_move rfl ?_)
      refine u_step (o_bin_int rfl rfl (by decide) rfl ?_)
      refine u_step (o_cv_int rfl th126 th5 rfl ?_)
      refine u_step (o_bin_int rfl rfl (by decide) rfl ?_)
      refine u_step (o_bs rfl th52 rfl th5 rfl rfl (by decide) rfl (by decide) (by decide) ?_)
      refine u_step (g_apD (q := q) (xs := bytesD acc) (show dstOf _ _ _ (ev _ _) = _ from hd) rfl th52 rfl th5 rfl rfl (by decide) rfl (by rw [bytesD_length]; simp; omega) (by rw [bytesD_length]; simp; omega) fun o3 hb hk => ?_)
      refine u_step (o_assignV (v := .row _) rfl ?_)
      refine u_nil ?_
      refine hK6 _ ?_
      refine WP.reg tabOk rfl ?_
      refine u_step (o_move rfl ?_)
      refine u_step (o_bin_int rfl rfl (by decide) rfl ?_)
      refine u_step (o_assign rfl ?_)
      refine u_nil ?_
      have hv : IntKind.u8.wrap (IntKind.u8.wrap ((m : Int).tmod 128) + 128) = ((UInt8.ofNat (m % 128 + 128)).toNat : Int) := by
        rw [wrap_u8, wrap_u8]
        have : (m : Int).tmod 128 = ((m % 128 : Nat) : Int) := by rw [Int.tmod_eq_emod_of_nonneg (by omega)]; omega
        rw [this]; simp
      have hv2 : IntKind.u64.wrap ((m : Int).tdiv 128) = ((m / 128 : Nat) : Int) := by
        rw [Int.tdiv_eq_ediv_of_nonneg (by omega), wrap_u64 (by omega) (by omega)]; omega
      refine ⟨(m / 128, acc ++ [UInt8.ofNat (m % 128 + 128)], .row nk2, o3, nk2 + 1), ⟨?_, by omega, by omega, ⟨some nk2, ?_, ?_⟩, ?_⟩, by simp only; omega, ?_⟩
      · rw [← hac, grp_ge hge]; simp
      · rw [← bytesD_snoc, ← hv]; exact dst_row hb
      · intro t ht; injection ht with ht; omega
      · intro t ht
        rw [hk t (by omega) (fun e => by have := hq t e.symm; omega), hfr t ht]
      · refine Le.al ?_
        simp only [List.forall_mem_cons]
        exact ⟨(by rw [← hv2]; rfl), rfl, by simp⟩
    · simp only [decide_eq_false_iff_not] at hc
      have hlt : m < 128 := by omega
      refine WP.exit ?_
      refine hK2 _ ?_
      refine WP.seq fun K6 hK6 => ?_
      refine WP.reg tabOk rfl ?_
      refine u_step (o_moveV (v := c) rfl ?_)
      refine u_step (o_move rfl ?_)
      refine u_step (o_cv_int rfl th126 th5 rfl ?_)
      refine u_step (o_bs rfl th52 rfl th5 rfl rfl (by decide) rfl (by decide) (by decide) ?_)
      refine u_step (g_apD (q := q) (xs := bytesD acc) (show dstOf _ _ _ (ev _ _) = _ from hd) rfl th52 rfl th5 rfl rfl (by decide) rfl (by rw [bytesD_length]; simp; omega) (by rw [bytesD_length]; simp; omega) fun o3 hb hk => ?_)
      refine u_step (o_assignV (v := .row _) rfl ?_)
      refine u_nil ?_
      refine hK6 _ ?_
      refine WP.ret ?_
      have hv : IntKind.u8.wrap (m : Int) = ((UInt8.ofNat m).toNat : Int) := by rw [wrap_u8]; simp
      refine rrow_ok rfl (by omega) (by omega) ?_ ?_
      · rw [← hac, grp_lt hlt, ← bytesD_snoc, ← hv]; exact hb
      · intro t ht
        rw [hk t (by omega) (fun e => by have := hq t e.symm; omega), hfr t ht]
  · exact ⟨by simp, by omega, by omega, ⟨none, rfl, by simp⟩, fun _ _ => rfl⟩
  · refine Le.al ?_
    simp only [List.forall_mem_cons]
    exact ⟨rfl, rfl, by simp⟩

end Go.Proofs.YtpkcbdhjnnnkbaaGreat.Abs

set_option linter.unusedVariables false
set_option linter.unusedSimpArgs false
set_option maxRecDepth 10000
namespace Go.Proofs.YtpkcbdhjnnnkbaaGreat.Abs
open Go
/-- A number as the codes of whole numbers have it. -/
def u64 (m : Int) : Nat := (m % 18446744073709551616).toNat
theorem u64_lt (m : Int) : u64 m < 18446744073709551616 := by unfold u64; omega
theorem u64_wrap (m : Int) : IntKind.u64.wrap m = (u64 m : Int) := by
  simp only [IntKind.wrap, IntKind.bits, IntKind.signed, u64]
  simp
  omega
theorem s140w (m : Int) : RSpec Tryz.prog 140 [.d (.int .u64 (IntKind.u64.wrap m))] 5 1 (bytesD (grp (u64 m))) := by
  rw [u64_wrap]; exact s140 _ (u64_lt m)
def zigN (x : Int) : Nat := if 0 ≤ x then u64 (2 * u64 x) else u64 (2 * u64 (-(x + 1)) + 1)

theorem fn88 : FnOk Tryz.prog 88 6 [2] (bodyOf Tryz.f88) := ⟨Tryz.f88, Tryz.func88, by kernel_rfl, by decide, by kernel_rfl, by kernel_rfl⟩
theorem s88 (n : Int) : RSpec Tryz.prog 88 [.d (.int .i64 n)] 5 1 (bytesD (grp (u64 n))) := by
  refine RSpec.of fn88 (by simp) fun o nk => ?_
  refine WP.seq fun K1 hK1 => ?_
  refine WP.reg tabOk rfl ?_
  refine u_step (o_assign rfl ?_)
  refine u_nil ?_
  refine hK1 _ ?_
  refine WP.seq fun K2 hK2 => ?_
  refine WP.reg tabOk rfl ?_
  refine u_step (o_move rfl ?_)
  refine u_step (o_cv_int rfl th3 th126 rfl ?_)
  refine u_step (o_rcall (s140w n) rfl fun q3 o3 nk3 hqa3 hqb3 hb3 hk3 => ?_)
  refine u_step (o_assignV (v := .row _) rfl ?_)
  refine u_nil ?_
  refine hK2 _ ?_
  refine WP.ret ?_
  refine rrow_ok rfl (by omega) (by omega) ?_ (fun t ht => (hk3 t (by omega)))
  exact hb3

theorem fn89 : FnOk Tryz.prog 89 9 [2] (bodyOf Tryz.f89) := ⟨Tryz.f89, Tryz.func89, by kernel_rfl, by decide, by kernel_rfl, by kernel_rfl⟩
theorem s89 (s : Str) (hs : s.length ≤ 70368744177664) : RSpec Tryz.prog 89 [.d (.str s)] 5 1 (bytesD (grp (u64 s.length) ++ s)) := by
  have hgl : (grp (u64 s.length)).length ≤ 10 := grp_len 10 _ (by have := u64_lt s.length; omega) (by omega)
  refine RSpec.of fn89 (by simp) fun o nk => ?_
  refine WP.seq fun K1 hK1 => ?_
  refine WP.reg tabOk rfl ?_
  refine u_step (o_assign rfl ?_)
  refine u_nil ?_
  refine hK1 _ ?_
  refine WP.seq fun K2 hK2 => ?_
  refine WP.reg tabOk rfl ?_
  refine u_step (o_move rfl ?_)
  refine u_step (o_len_str rfl th9 rfl ?_)
  refine u_step (o_rcall (s88 _) rfl fun q3 o3 nk3 hqa3 hqb3 hb3 hk3 => ?_)
  refine u_step (o_move rfl ?_)
  refine u_step (o_cv_bytes rfl th9 rfl th52 rfl th5 rfl ?_ ?_)
  · first | assumption | omega
  refine u_step (g_ap rfl rfl th52 rfl th5 rfl rfl (by decide) rfl hb3 (by simp only [bytesD_length]; omega) (by simp only [bytesD_length]; omega) fun o4 hb4 hk4 => ?_)
  refine u_step (o_assignV (v := .row _) rfl ?_)
  refine u_nil ?_
  refine hK2 _ ?_
  refine WP.ret ?_
  refine rrow_ok rfl (by omega) (by omega) ?_ (fun t ht => (hk4 t (by omega) (by omega)).trans ((hk3 t (by omega))))
  simpa [bytesD] using hb4

theorem fn170 : FnOk Tryz.prog 170 14 [2] (bodyOf Tryz.f170) := ⟨Tryz.f170, Tryz.func170, by kernel_rfl, by decide, by kernel_rfl, by kernel_rfl⟩
theorem s170 (x : Int) (h1 : -9223372036854775808 ≤ x) (h2 : x ≤ 9223372036854775807) : PSpec Tryz.prog 170 [.d (.int .i64 x)] (.d (.int .u64 (zigN x : Int))) := by
  refine PSpec.of fn170 (by simp) fun o nk => ?_
  refine WP.seq fun K1 hK1 => ?_
  refine WP.reg tabOk rfl ?_
  refine u_step (o_assign rfl ?_)
  refine u_nil ?_
  refine hK1 _ ?_
  refine WP.seq fun K2 hK2 => ?_
  refine WP.seq fun K3 hK3 => ?_
  refine WP.reg tabOk rfl ?_
  refine u_step (o_move rfl ?_)
  refine u_step (o_bin_int rfl rfl (by decide) rfl ?_)
  refine u_nil ?_
  refine hK3 _ ?_
  refine WP.cond rfl (fun hc4 => ?_) (fun hc4 => ?_)
  ·
    try simp only [Q0, Q1, Q2, Q3, Q4, Q5, Q6, Q7, Q8, ge_iff_le, gt_iff_lt] at hc4
    refine WP.seq fun K5 hK5 => ?_
    refine WP.reg tabOk rfl ?_
    refine u_step (o_move rfl ?_)
    refine u_step (o_cv_int rfl th3 th126 rfl ?_)
    refine u_step (o_bin_int rfl rfl (by decide) rfl ?_)
    refine u_step (o_assign rfl ?_)
    refine u_nil ?_
    refine hK5 _ ?_
    refine WP.ret ?_
    refine ret_ok rfl ?_ (by omega) (fun _ _ => rfl)
    -- ret 1
    refine congrArg (D.int .u64) ?_
    rw [zigN, if_pos hc4, u64_wrap x, u64_wrap]
  ·
    try simp only [Q0, Q1, Q2, Q3, Q4, Q5, Q6, Q7, Q8, ge_iff_le, gt_iff_lt] at hc4
    refine WP.skip ?_
    refine hK2 _ ?_
    refine WP.seq fun K6 hK6 => ?_
    refine WP.reg tabOk rfl ?_
    refine u_step (o_move rfl ?_)
    refine u_step (o_bin_int rfl rfl (by decide) rfl ?_)
    refine u_step (o_un rfl rfl ?_)
    refine u_step (o_cv_int rfl th3 th126 rfl ?_)
    refine u_step (o_bin_int rfl rfl (by decide) rfl ?_)
    refine u_step (o_bin_int rfl rfl (by decide) rfl ?_)
    refine u_step (o_assign rfl ?_)
    refine u_nil ?_
    refine hK6 _ ?_
    refine WP.ret ?_
    refine ret_ok rfl ?_ (by omega) (fun _ _ => rfl)
    -- ret 2
    refine congrArg (D.int .u64) ?_
    have e1 : IntKind.i64.wrap (x + 1) = x + 1 := wrap_i64 (by omega) (by omega)
    have e2 : IntKind.i64.wrap (0 - (x + 1)) = -(x + 1) := by rw [wrap_i64 (by omega) (by omega)]; omega
    rw [zigN, if_neg hc4, e1, e2]
    simp only [u64_wrap, u64]
    omega

theorem fn141 : FnOk Tryz.prog 141 6 [2] (bodyOf Tryz.f141) := ⟨Tryz.f141, Tryz.func141, by kernel_rfl, by decide, by kernel_rfl, by kernel_rfl⟩
theorem s141 (x : Int) (h1 : -9223372036854775808 ≤ x) (h2 : x ≤ 9223372036854775807) : RSpec Tryz.prog 141 [.d (.int .i64 x)] 5 1 (bytesD (grp (zigN x))) := by
  refine RSpec.of fn141 (by simp) fun o nk => ?_
  refine WP.seq fun K1 hK1 => ?_
  refine WP.reg tabOk rfl ?_
  refine u_step (o_assign rfl ?_)
  refine u_nil ?_
  refine hK1 _ ?_
  refine WP.seq fun K2 hK2 => ?_
  refine WP.reg tabOk rfl ?_
  refine u_step (o_move rfl ?_)
  refine u_step (o_pcall (s170 x h1 h2) rfl ?_)
  refine u_step (o_rcall (s140 (zigN x) (by unfold zigN; split <;> exact u64_lt _)) rfl fun q3 o3 nk3 hqa3 hqb3 hb3 hk3 => ?_)
  refine u_step (o_assignV (v := .row _) rfl ?_)
  refine u_nil ?_
  refine hK2 _ ?_
  refine WP.ret ?_
  refine rrow_ok rfl (by omega) (by omega) ?_ (fun t ht => (hk3 t (by omega)))
  exact hb3


theorem or128 (m : Nat) : bitsOf .or .u8 (IntKind.u8.wrap (m : Int)) 128 = ((UInt8.ofNat (m % 128 + 128)).toNat : Int) := by
  have h1 : ∀ b : BitVec 8, (b ||| 128#8).toNat = b.toNat % 128 + 128 := by decide
  have e : bitsOf .or .u8 (IntKind.u8.wrap (m : Int)) 128 = IntKind.u8.wrap ((BitVec.ofInt 8 (IntKind.u8.wrap (m : Int)) ||| 128#8).toNat : Int) := rfl
  rw [e, wrap_u8, wrap_u8, h1]
  simp
  omega
theorem fn138 : FnOk Tryz.prog 138 20 [4] (bodyOf Tryz.f138) := ⟨Tryz.f138, Tryz.func138, by kernel_rfl, by decide, by kernel_rfl, by kernel_rfl⟩
theorem s138 (u : Nat) (hu : u < 18446744073709551616) : RSpec Tryz.prog 138 [.d .nil, .d (.int .u64 u)] 5 1 (bytesD (grp u)) := by
  refine RSpec.of fn138 (by simp) fun o nk => ?_
  refine WP.seq fun K1 hK1 => ?_
  refine WP.reg tabOk rfl ?_
  refine u_step (o_assign rfl ?_)
  refine u_nil ?_
  refine hK1 _ ?_
  refine WP.seq fun K2 hK2 => ?_
  refine WP.block ?_
  refine WP.loopL (ι := Nat × Str × SV × (Nat → Option AO) × Nat) (fun ⟨m, acc, c, o2, nk2⟩ => ⟨al [(1, .d (.int .u64 m)), (0, c)], o2, nk2⟩)
    (fun ⟨m, acc, c, o2, nk2⟩ => acc ++ grp m = grp u ∧ m ≤ u ∧ nk ≤ nk2 ∧ (∃ q, dstOf o2 5 1 c = some (q, bytesD acc) ∧ ∀ t, q = some t → nk ≤ t ∧ t < nk2) ∧ ∀ t, t < nk → o2 t = o t)
    (fun ⟨m, _, _, _, _⟩ => m) (fun ⟨m, acc, c, o2, nk2⟩ hA => ?_) (u, [], .d .nil, o, nk) ?_ ?_
  · obtain ⟨hac, hm, hnk, ⟨q, hd, hq⟩, hfr⟩ := hA
    have hlen : acc.length + (grp m).length = (grp u).length := by rw [← hac]; simp
    have hgl : (grp u).length ≤ 10 := grp_len 10 u (by omega) (by omega)
    have hgm : 1 ≤ (grp m).length := by
      by_cases h : m < 128
      · rw [grp_lt h]; simp
      · rw [grp_ge h]; simp
    refine WP.seq fun K4 hK4 => ?_
    refine WP.seq fun K5 hK5 => ?_
    refine WP.reg tabOk rfl ?_
    refine u_step (o_move rfl ?_)
    refine u_step (o_bin_int rfl rfl (by decide) rfl ?_)
    refine u_nil ?_
    refine hK5 _ ?_
    refine WP.cond rfl (fun hc => ?_) (fun hc => ?_)
    · simp only [decide_eq_true_eq] at hc
      have hge : ¬ m < 128 := by omega
      refine WP.skip ?_
      refine hK4 _ ?_
      refine WP.seq fun K6 hK6 => ?_
      refine WP.block ?_
      refine WP.reg tabOk rfl ?_
      refine u_step (o_moveV (v := c) rfl ?_)
      refine u_step (o_move rfl ?_)
      refine u_step (o_cv_int rfl th126 th5 rfl ?_)
      refine u_step (o_bin_int rfl rfl (by decide) rfl ?_)
      refine u_step (o_bs rfl th52 rfl th5 rfl rfl (by decide) rfl (by decide) (by decide) ?_)
      refine u_step (g_apD (q := q) (xs := bytesD acc) (show dstOf _ _ _ (ev _ _) = _ from hd) rfl th52 rfl th5 rfl rfl (by decide) rfl (by rw [bytesD_length]; simp; omega) (by rw [bytesD_length]; simp; omega) fun o3 hb hk => ?_)
      refine u_step (o_assignV (v := .row _) rfl ?_)
      refine u_nil ?_
      refine hK6 _ ?_
      refine WP.reg tabOk rfl ?_
      refine u_step (o_move rfl ?_)
      refine u_step (o_bin_sh rfl rfl rfl ?_)
      refine u_step (o_assign rfl ?_)
      refine u_nil ?_
      have hv2 : (m : Int).fdiv (2 ^ min (7 : Int).toNat IntKind.u64.bits) = ((m / 128 : Nat) : Int) := by
        show (m : Int).fdiv 128 = _
        rw [Int.fdiv_eq_ediv_of_nonneg _ (by omega)]; omega
      refine ⟨(m / 128, acc ++ [UInt8.ofNat (m % 128 + 128)], .row nk2, o3, nk2 + 1), ⟨?_, by omega, by omega, ⟨some nk2, ?_, ?_⟩, ?_⟩, by simp only; omega, ?_⟩
      · rw [← hac, grp_ge hge]; simp
      · rw [← bytesD_snoc, ← or128]; exact dst_row hb
      · intro t ht; injection ht with ht; omega
      · intro t ht
        rw [hk t (by omega) (fun e => by have := hq t e.symm; omega), hfr t ht]
      · refine Le.al ?_
        simp only [List.forall_mem_cons]
        exact ⟨(by rw [← hv2]; rfl), rfl, by simp⟩
    · simp only [decide_eq_false_iff_not] at hc
      have hlt : m < 128 := by omega
      refine WP.exit ?_
      refine hK2 _ ?_
      refine WP.seq fun K6 hK6 => ?_
      refine WP.reg tabOk rfl ?_
      refine u_step (o_moveV (v := c) rfl ?_)
      refine u_step (o_move rfl ?_)
      refine u_step (o_cv_int rfl th126 th5 rfl ?_)
      refine u_step (o_bs rfl th52 rfl th5 rfl rfl (by decide) rfl (by decide) (by decide) ?_)
      refine u_step (g_apD (q := q) (xs := bytesD acc) (show dstOf _ _ _ (ev _ _) = _ from hd) rfl th52 rfl th5 rfl rfl (by decide) rfl (by rw [bytesD_length]; simp; omega) (by rw [bytesD_length]; simp; omega) fun o3 hb hk => ?_)
      refine u_step (o_assignV (v := .row _) rfl ?_)
      refine u_nil ?_
      refine hK6 _ ?_
      refine WP.ret ?_
      have hv : IntKind.u8.wrap (m : Int) = ((UInt8.ofNat m).toNat : Int) := by rw [wrap_u8]; simp
      refine rrow_ok rfl (by omega) (by omega) ?_ ?_
      · rw [← hac, grp_lt hlt, ← bytesD_snoc, ← hv]; exact hb
      · intro t ht
        rw [hk t (by omega) (fun e => by have := hq t e.symm; omega), hfr t ht]
  · exact ⟨by simp, by omega, by omega, ⟨none, rfl, by simp⟩, fun _ _ => rfl⟩
  · refine Le.al ?_
    simp only [List.forall_mem_cons]
    exact ⟨rfl, rfl, by simp⟩
end Go.Proofs.YtpkcbdhjnnnkbaaGreat.Abs

set_option linter.unusedVariables false
set_option linter.unusedSimpArgs false
set_option maxRecDepth 10000
namespace Go.Proofs.YtpkcbdhjnnnkbaaGreat.Abs
open Go
theorem xor_zig {x : Int} (h1 : -9223372036854775808 ≤ x) (h2 : x ≤ 9223372036854775807) :
    bitsOf .xor .u64 (IntKind.u64.wrap (IntKind.u64.wrap x * 2 ^ min (1 : Int).toNat IntKind.u64.bits)) (IntKind.u64.wrap (x.fdiv (2 ^ min (63 : Int).toNat IntKind.i64.bits))) = (zigN x : Int) := by
  have e0 : IntKind.u64.wrap x * 2 ^ min (1 : Int).toNat IntKind.u64.bits = 2 * IntKind.u64.wrap x := by
    show IntKind.u64.wrap x * 2 = _
    omega
  have e1 : x.fdiv (2 ^ min (63 : Int).toNat IntKind.i64.bits) = if 0 ≤ x then 0 else -1 := by
    show x.fdiv 9223372036854775808 = _
    rw [Int.fdiv_eq_ediv_of_nonneg _ (by omega)]
    split <;> omega
  have e2 : ∀ a b : Int, bitsOf .xor .u64 a b = IntKind.u64.wrap ((BitVec.ofInt 64 a ^^^ BitVec.ofInt 64 b).toNat : Int) := fun _ _ => rfl
  rw [e0, e1, e2]
  by_cases h : 0 ≤ x
  · rw [if_pos h]
    have hz : BitVec.ofInt 64 (IntKind.u64.wrap 0) = 0#64 := rfl
    rw [hz, BitVec.xor_zero, BitVec.toNat_ofInt, zigN, if_pos h]
    simp only [u64_wrap, u64]
    omega
  · rw [if_neg h]
    have hz : BitVec.ofInt 64 (IntKind.u64.wrap (-1)) = BitVec.allOnes 64 := by decide
    rw [hz, BitVec.xor_allOnes, BitVec.toNat_not, BitVec.toNat_ofInt, zigN, if_neg h]
    simp only [u64_wrap, u64]
    omega
theorem s138x {x : Int} (h1 : -9223372036854775808 ≤ x) (h2 : x ≤ 9223372036854775807) :
    RSpec Tryz.prog 138 [.d .nil, .d (.int .u64 (bitsOf .xor .u64 (IntKind.u64.wrap (IntKind.u64.wrap x * 2 ^ min (1 : Int).toNat IntKind.u64.bits)) (IntKind.u64.wrap (x.fdiv (2 ^ min (63 : Int).toNat IntKind.i64.bits)))))] 5 1 (bytesD (grp (zigN x))) := by
  rw [xor_zig h1 h2]; exact s138 (zigN x) (by unfold zigN; split <;> exact u64_lt _)
theorem s138w (m : Int) : RSpec Tryz.prog 138 [.d .nil, .d (.int .u64 (IntKind.u64.wrap m))] 5 1 (bytesD (grp (u64 m))) := by
  rw [u64_wrap]; exact s138 _ (u64_lt m)

theorem fn169 : FnOk Tryz.prog 169 11 [2] (bodyOf Tryz.f169) := ⟨Tryz.f169, Tryz.func169, by kernel_rfl, by decide, by kernel_rfl, by kernel_rfl⟩
theorem s169 (x : Int) (h1 : -9223372036854775808 ≤ x) (h2 : x ≤ 9223372036854775807) : RSpec Tryz.prog 169 [.d (.int .i64 x)] 5 1 (bytesD (grp (zigN x))) := by
  refine RSpec.of fn169 (by simp) fun o nk => ?_
  refine WP.seq fun K1 hK1 => ?_
  refine WP.reg tabOk rfl ?_
  refine u_step (o_assign rfl ?_)
  refine u_nil ?_
  refine hK1 _ ?_
  refine WP.seq fun K2 hK2 => ?_
  refine WP.reg tabOk rfl ?_
  refine u_step (o_move rfl ?_)
  refine u_step (o_cv_int rfl th3 th126 rfl ?_)
  refine u_step (o_bin_sh rfl rfl rfl ?_)
  refine u_step (o_move rfl ?_)
  refine u_step (o_bin_sh rfl rfl rfl ?_)
  refine u_step (o_cv_int rfl th3 th126 rfl ?_)
  refine u_step (o_bin_int rfl rfl (by decide) rfl ?_)
  refine u_step (o_rcall (s138x h1 h2) rfl fun q3 o3 nk3 hqa3 hqb3 hb3 hk3 => ?_)
  refine u_step (o_assignV (v := .row _) rfl ?_)
  refine u_nil ?_
  refine hK2 _ ?_
  refine WP.ret ?_
  refine rrow_ok rfl (by omega) (by omega) ?_ (fun t ht => (hk3 t (by omega)))
  exact hb3

theorem fn137 : FnOk Tryz.prog 137 13 [2, 3] (bodyOf Tryz.f137) := ⟨Tryz.f137, Tryz.func137, by kernel_rfl, by decide, by kernel_rfl, by kernel_rfl⟩
theorem s137 (n : Int) (h1 : 0 ≤ n) (h2 : n ≤ 4611686018427387904) : RDSpec Tryz.prog 137 [.d (.int .i64 n)] 5 1 (bytesD (grp (u64 n))) (.int .i64 0) := by
  refine RDSpec.of fn137 (by simp) fun o nk => ?_
  refine WP.seq fun K1 hK1 => ?_
  refine WP.reg tabOk rfl ?_
  refine u_step (o_assign rfl ?_)
  refine u_step (o_assign rfl ?_)
  refine u_nil ?_
  refine hK1 _ ?_
  refine WP.seq fun K2 hK2 => ?_
  refine WP.seq fun K3 hK3 => ?_
  refine WP.reg tabOk rfl ?_
  refine u_step (o_move rfl ?_)
  refine u_step (o_bin_int rfl rfl (by decide) rfl ?_)
  refine u_step (o_move rfl ?_)
  apply u_guard
  · exact GC.f _
  · intro hg
    refine o_move rfl ⟨rfl, rfl, rfl⟩
  apply u_guard
  · exact GC.f _
  · intro hg; try simp only [hg, cnd_true]; try simp only [hg, cnd_true, Bool.true_and]
    refine o_bin_int rfl rfl (by decide) rfl ⟨rfl, rfl, rfl⟩
  refine u_step (o_pick_or rfl rfl rfl ?_)
  refine u_nil ?_
  refine hK3 _ ?_
  refine WP.cond rfl (fun hc4 => ?_) (fun hc4 => ?_)
  ·
    try simp only [Q0, Q1, Q2, Q3, Q4, Q5, Q6, Q7, Q8, ge_iff_le, gt_iff_lt] at hc4
    exfalso
    simp at hc4
    omega
  ·
    try simp only [Q0, Q1, Q2, Q3, Q4, Q5, Q6, Q7, Q8, ge_iff_le, gt_iff_lt] at hc4
    refine WP.skip ?_
    refine hK2 _ ?_
    refine WP.seq fun K5 hK5 => ?_
    refine WP.reg tabOk rfl ?_
    refine u_step (o_move rfl ?_)
    refine u_step (o_cv_int rfl th3 th126 rfl ?_)
    refine u_step (o_rcall (s138w n) rfl fun q6 o6 nk6 hqa6 hqb6 hb6 hk6 => ?_)
    refine u_step (o_assignV (v := .row _) rfl ?_)
    refine u_step (o_assign rfl ?_)
    refine u_nil ?_
    refine hK5 _ ?_
    refine WP.ret ?_
    refine rrowd_ok rfl ?_ (by omega) (by omega) ?_ (fun t ht => (hk6 t (by omega)))
    · rfl
    exact hb6

theorem fn187 : FnOk Tryz.prog 187 12 [2] (bodyOf Tryz.f187) := ⟨Tryz.f187, Tryz.func187, by kernel_rfl, by decide, by kernel_rfl, by kernel_rfl⟩
theorem s187 (n : Int) (h1 : 0 ≤ n) (h2 : n ≤ 4611686018427387904) : PSpec Tryz.prog 187 [.d (.int .i64 n)] (.d (.int .i64 ((grp (u64 n)).length : Int))) := by
  refine PSpec.of fn187 (by simp) fun o nk => ?_
  refine WP.seq fun K1 hK1 => ?_
  refine WP.reg tabOk rfl ?_
  refine u_step (o_assign rfl ?_)
  refine u_nil ?_
  refine hK1 _ ?_
  refine WP.seq fun K2 hK2 => ?_
  refine WP.reg tabOk rfl ?_
  refine u_step (o_move rfl ?_)
  refine u_step (o_rdcall (s137 n h1 h2) rfl fun q3 o3 nk3 hqa3 hqb3 hb3 hk3 => ?_)
  refine u_step (o_moveV (v := .tup _) rfl ?_)
  refine u_step (o_ext rfl rfl ?_)
  refine u_step (o_ext rfl rfl ?_)
  refine u_step (o_assignV (v := .row _) rfl ?_)
  refine u_step (o_assign rfl ?_)
  refine u_nil ?_
  refine hK2 _ ?_
  refine WP.seq fun K4 hK4 => ?_
  refine WP.reg tabOk rfl ?_
  refine u_step (o_moveV (v := .row _) rfl ?_)
  refine u_step (o_len_row rfl th52 rfl hb3 ?_)
  refine u_step (o_assign rfl ?_)
  refine u_nil ?_
  refine hK4 _ ?_
  refine WP.ret ?_
  refine ret_ok rfl ?_ (by omega) (fun t ht => (hk3 t (by omega)))
  -- ret 1
  rw [bytesD_length]

theorem fn186 : FnOk Tryz.prog 186 9 [2] (bodyOf Tryz.f186) := ⟨Tryz.f186, Tryz.func186, by kernel_rfl, by decide, by kernel_rfl, by kernel_rfl⟩
theorem s186 (s : Str) (hs : s.length ≤ 70368744177664) : PSpec Tryz.prog 186 [.d (.str s)] (.d (.int .i64 (((grp (u64 s.length)).length + s.length : Nat) : Int))) := by
  have hgl : (grp (u64 s.length)).length ≤ 10 := grp_len 10 _ (by have := u64_lt s.length; omega) (by omega)
  refine PSpec.of fn186 (by simp) fun o nk => ?_
  refine WP.seq fun K1 hK1 => ?_
  refine WP.reg tabOk rfl ?_
  refine u_step (o_assign rfl ?_)
  refine u_nil ?_
  refine hK1 _ ?_
  refine WP.seq fun K2 hK2 => ?_
  refine WP.reg tabOk rfl ?_
  refine u_step (o_move rfl ?_)
  refine u_step (o_len_str rfl th9 rfl ?_)
  refine u_step (o_pcall (s187 s.length (by omega) (by omega)) rfl ?_)
  refine u_step (o_move rfl ?_)
  refine u_step (o_len_str rfl th9 rfl ?_)
  refine u_step (o_bin_int rfl rfl (by decide) rfl ?_)
  refine u_step (o_assign rfl ?_)
  refine u_nil ?_
  refine hK2 _ ?_
  refine WP.ret ?_
  refine ret_ok rfl ?_ (by omega) (fun _ _ => rfl)
  -- ret 1
  rw [wrap_i64 (by omega) (by omega)]; simp

end Go.Proofs.YtpkcbdhjnnnkbaaGreat.Abs

set_option linter.unusedVariables false
set_option linter.unusedSimpArgs false
set_option maxRecDepth 10000
namespace Go.Proofs.YtpkcbdhjnnnkbaaGreat.Abs
open Go
theorem max_i (a b : Nat) : (if (a : Int) < (b : Int) then (b : Int) else (a : Int)) = ((max a b : Nat) : Int) := by split <;> omega

theorem fn160 : FnOk Tryz.prog 160 20 [2] (bodyOf Tryz.f160) := ⟨Tryz.f160, Tryz.func160, by kernel_rfl, by decide, by kernel_rfl, by kernel_rfl⟩
theorem s160A (m : Nat) : ∀ v : Val, SizeOf.sizeOf v < m → szV v ≤ 1099511627776 → PSpec Tryz.prog 160 [.d (encV v)] (.d (.int .i64 (depthV v : Int))) := by
  induction m with
  | zero => intros; omega
  | succ m ih =>
    rintro ⟨kd, it, tx, xs, ns⟩ hv hsz
    have hsz2 : 1 + tx.length + szVs xs + szN ns ≤ 1099511627776 := hsz
    have hxl := szVs_len xs
    have hnl := szN_len ns
    have hdp := depths_sz xs
    refine PSpec.of fn160 (by simp) fun o nk => ?_
    refine WP.seq fun K1 hK1 => ?_
    refine WP.reg tabOk rfl ?_
    refine u_step (g_box rfl fun o2 hb2 hk2 => ?_)
    refine u_step (o_assign rfl ?_)
    refine u_nil ?_
    refine hK1 _ ?_
    refine WP.seq fun K3 hK3 => ?_
    refine WP.reg tabOk rfl ?_
    refine u_step (o_assign rfl ?_)
    refine u_nil ?_
    refine hK3 _ ?_
    refine WP.seq fun K4 hK4 => ?_
    refine WP.seq fun K5 hK5 => ?_
    refine WP.reg tabOk rfl ?_
    refine u_step (o_fa_loc rfl th27 rfl rfl th25 (by decide) hb2 ?_)
    refine u_step (o_ld_loc rfl th25 rfl hb2 rfl ?_)
    refine u_step (o_len_sl rfl th25 rfl ?_)
    refine u_step (o_move rfl ?_)
    refine u_nil ?_
    refine hK5 _ ?_
    refine WP.block ?_
    refine WP.loopL (ι := Nat × (Nat → Option AO) × Nat) (fun ⟨i, o2, nk2⟩ => ⟨al [(3, .d (.int .i64 (depthsV (xs.take i) : Nat))), (7, .d (.sl 5 (encVs xs))), (8, .d (.int .i64 (encVs xs).length)), (9, .d (.int .i64 i))], o2, nk2⟩) (fun ⟨i, o2, nk2⟩ => i ≤ xs.length ∧ nk ≤ nk2 ∧ (∀ t, t < nk → o2 t = o t)) (fun ⟨i, o2, nk2⟩ => xs.length - i) (fun ⟨i, o2, nk2⟩ hA => ?_) ⟨0, o2, (nk + 1)⟩ ?_ ?_
    ·
      obtain ⟨hle, hnk, hfr⟩ := hA
      refine WP.seq fun K6 hK6 => ?_
      refine WP.reg tabOk rfl ?_
      refine u_step (o_bin_int rfl rfl (by decide) rfl ?_)
      refine u_nil ?_
      refine hK6 _ ?_
      refine WP.seq fun K7 hK7 => ?_
      refine WP.cond rfl (fun hc8 => ?_) (fun hc8 => ?_)
      ·
        try simp only [Q0, Q1, Q2, Q3, Q4, Q5, Q6, Q7, Q8, ge_iff_le, gt_iff_lt] at hc8
        refine WP.skip ?_
        refine hK7 _ ?_
        refine WP.seq fun K9 hK9 => ?_
        refine WP.block ?_
        refine WP.seq fun K10 hK10 => ?_
        refine WP.reg tabOk rfl ?_
        first | refine u_step (o_ia_map rfl rfl th25 rfl th27 rfl (by omega) ?_) | refine u_step (o_ia_vs rfl rfl th25 rfl th27 rfl (by omega) ?_)
        refine u_step (o_ld_el rfl th27 (by first | rfl | simp only [encV_leaf, encV_width, Bool.not_true, TK.agg]) (by first | rfl | simp only [encV_leaf, encV_width, Bool.not_true, TK.agg]) ?_)
        refine u_step (g_alloc th27 rfl fun o11 hb11 hk11 => ?_)
        refine u_step0 (g_sta rfl (congrArg SV.d (encV_eq _)) th27 rfl hb11 (by simp [valCells]) fun o12 hb12 hk12 => ?_)
        refine u_nil ?_
        refine hK10 _ ?_
        refine WP.reg tabOk rfl ?_
        refine u_step (o_move rfl ?_)
        refine u_step (o_ld_agg rfl th27 rfl hb12 rfl rfl rfl ?_)
        refine u_step (o_pcall (pv (v := xs[i]) (ih _ (by exact items_lt' (by omega) hv) (by have := szVs_get (xs := xs) (j := i) (by omega); omega))) rfl ?_)
        refine u_step (o_mm (by decide) rfl ?_)
        refine u_step (o_assign rfl ?_)
        refine u_nil ?_
        refine hK9 _ ?_
        refine WP.reg tabOk rfl ?_
        refine u_step (o_bin_int rfl rfl (by decide) rfl ?_)
        refine u_step (o_move rfl ?_)
        refine u_nil ?_
        -- back
        refine ⟨⟨i + 1, o12, (nk2 + 1)⟩, ⟨by omega, by omega, (fun t ht => (hk12 t (by omega)).trans ((hk11 t (by omega)).trans ((hfr t (by omega)))))⟩, by simp only; omega, ?_⟩
        refine Le.al ?_
        simp only [List.forall_mem_cons]
        exact ⟨(by rw [depthsV_snoc (by omega), ← max_i]; rfl), rfl, rfl, cnt (by omega), by simp⟩
      ·
        try simp only [Q0, Q1, Q2, Q3, Q4, Q5, Q6, Q7, Q8, ge_iff_le, gt_iff_lt] at hc8
        refine WP.exit ?_
        refine hK4 _ ?_
        refine WP.seq fun K13 hK13 => ?_
        refine WP.reg tabOk rfl ?_
        refine u_step (o_move rfl ?_)
        refine u_step (o_bin_int rfl rfl (by decide) rfl ?_)
        refine u_step (o_assign rfl ?_)
        refine u_nil ?_
        refine hK13 _ ?_
        refine WP.ret ?_
        refine ret_ok rfl ?_ (by omega) (fun t ht => (hfr t (by omega)))
        -- ret 1
        refine congrArg (D.int .i64) ?_
        have h0 : xs.take i = xs := List.take_of_length_le (by omega)
        rw [h0, wrap_succ (by omega)]
        rfl
    ·
      refine ⟨by simp, by omega, (fun t ht => (hk2 t (by omega)))⟩
    ·
      refine Le.al ?_
      simp only [List.forall_mem_cons]
      exact ⟨rfl, rfl, rfl, rfl, by simp⟩
theorem s160 (v : Val) (hsz : szV v ≤ 1099511627776) : PSpec Tryz.prog 160 [.d (encV v)] (.d (.int .i64 (depthV v : Int))) := s160A _ v (Nat.lt_succ_self _) hsz

theorem fn116 : FnOk Tryz.prog 116 25 [2] (bodyOf Tryz.f116) := ⟨Tryz.f116, Tryz.func116, by kernel_rfl, by decide, by kernel_rfl, by kernel_rfl⟩
theorem s116A (m : Nat) : ∀ v : Val, SizeOf.sizeOf v < m → szV v ≤ 1099511627776 → PSpec Tryz.prog 116 [.d (encV v)] (.d (.int .i64 (depthV v : Int))) := by
  induction m with
  | zero => intros; omega
  | succ m ih =>
    rintro ⟨kd, it, tx, xs, ns⟩ hv hsz
    have hsz2 : 1 + tx.length + szVs xs + szN ns ≤ 1099511627776 := hsz
    have hxl := szVs_len xs
    have hnl := szN_len ns
    have hdp := depths_sz xs
    refine PSpec.of fn116 (by simp) fun o nk => ?_
    refine WP.seq fun K1 hK1 => ?_
    refine WP.reg tabOk rfl ?_
    refine u_step (g_box rfl fun o2 hb2 hk2 => ?_)
    refine u_step (o_assign rfl ?_)
    refine u_nil ?_
    refine hK1 _ ?_
    refine WP.seq fun K3 hK3 => ?_
    refine WP.reg tabOk rfl ?_
    refine u_step (o_assign rfl ?_)
    refine u_nil ?_
    refine hK3 _ ?_
    refine WP.seq fun K4 hK4 => ?_
    refine WP.seq fun K5 hK5 => ?_
    refine WP.reg tabOk rfl ?_
    refine u_step (o_assign rfl ?_)
    refine u_nil ?_
    refine hK5 _ ?_
    refine WP.block ?_
    refine WP.loopL (ι := Nat) (fun i => ⟨al [(1, .loc nk 0), (3, .d (.int .i64 (depthsV (xs.take i) : Nat))), (4, .d (.int .i64 i))], o2, (nk + 1)⟩) (fun i => i ≤ xs.length ∧ True) (fun i => xs.length - i) (fun i hA => ?_) 0 ?_ ?_
    ·
      obtain ⟨hle_i, hin_i⟩ := hA
      refine WP.seq fun K6 hK6 => ?_
      refine WP.seq fun K7 hK7 => ?_
      refine WP.reg tabOk rfl ?_
      refine u_step (o_move rfl ?_)
      refine u_step (o_fa_loc rfl th27 rfl rfl th25 (by decide) hb2 ?_)
      refine u_step (o_ld_loc rfl th25 rfl hb2 rfl ?_)
      refine u_step (o_len_sl rfl th25 rfl ?_)
      refine u_step (o_bin_int rfl rfl (by decide) rfl ?_)
      refine u_nil ?_
      refine hK7 _ ?_
      refine WP.cond rfl (fun hc8 => ?_) (fun hc8 => ?_)
      ·
        try simp only [Q0, Q1, Q2, Q3, Q4, Q5, Q6, Q7, Q8, ge_iff_le, gt_iff_lt] at hc8
        refine WP.skip ?_
        refine hK6 _ ?_
        refine WP.seq fun K9 hK9 => ?_
        refine WP.block ?_
        refine WP.seq fun K10 hK10 => ?_
        refine WP.reg tabOk rfl ?_
        refine u_step (o_fa_loc rfl th27 rfl rfl th25 (by decide) hb2 ?_)
        refine u_step (o_ld_loc rfl th25 rfl hb2 rfl ?_)
        refine u_step (o_move rfl ?_)
        first | refine u_step (o_ia_map rfl rfl th25 rfl th27 rfl (by omega) ?_) | refine u_step (o_ia_vs rfl rfl th25 rfl th27 rfl (by omega) ?_)
        refine u_step (o_ld_el rfl th27 (by first | rfl | simp only [encV_leaf, encV_width, Bool.not_true, TK.agg]) (by first | rfl | simp only [encV_leaf, encV_width, Bool.not_true, TK.agg]) ?_)
        refine u_step (o_pcall (ih _ (by exact items_lt' (by omega) hv) (by have := szVs_get (xs := xs) (j := i) (by omega); omega)) rfl ?_)
        refine u_step (o_assign rfl ?_)
        refine u_nil ?_
        refine hK10 _ ?_
        refine WP.seq fun K11 hK11 => ?_
        refine WP.reg tabOk rfl ?_
        refine u_step (o_move rfl ?_)
        refine u_step (o_move rfl ?_)
        refine u_step (o_bin_int rfl rfl (by decide) rfl ?_)
        refine u_nil ?_
        refine hK11 _ ?_
        refine WP.cond rfl (fun hc12 => ?_) (fun hc12 => ?_)
        ·
          try simp only [Q0, Q1, Q2, Q3, Q4, Q5, Q6, Q7, Q8, ge_iff_le, gt_iff_lt] at hc12
          refine WP.reg tabOk rfl ?_
          refine u_step (o_move rfl ?_)
          refine u_step (o_assign rfl ?_)
          refine u_nil ?_
          refine hK9 _ ?_
          refine WP.reg tabOk rfl ?_
          refine u_step (o_move rfl ?_)
          refine u_step (o_bin_int rfl rfl (by decide) rfl ?_)
          refine u_step (o_assign rfl ?_)
          refine u_nil ?_
          -- back
          refine ⟨i + 1, ⟨by omega, trivial⟩, by omega, ?_⟩
          refine Le.al ?_
          simp only [List.forall_mem_cons]
          have hmx := depthsV_snoc (xs := xs) (i := i) (by omega)
          refine ⟨rfl, ?_, cnt (by omega), by simp⟩
          first | (show SV.d (.int .i64 (depthV xs[i] : Int)) = _; rw [hmx]; refine congrArg (fun n : Int => SV.d (.int .i64 n)) ?_; omega) | (show SV.d (.int .i64 (depthsV (xs.take i) : Int)) = _; rw [hmx]; refine congrArg (fun n : Int => SV.d (.int .i64 n)) ?_; omega)
        ·
          try simp only [Q0, Q1, Q2, Q3, Q4, Q5, Q6, Q7, Q8, ge_iff_le, gt_iff_lt] at hc12
          refine WP.skip ?_
          refine hK9 _ ?_
          refine WP.reg tabOk rfl ?_
          refine u_step (o_move rfl ?_)
          refine u_step (o_bin_int rfl rfl (by decide) rfl ?_)
          refine u_step (o_assign rfl ?_)
          refine u_nil ?_
          -- back
          refine ⟨i + 1, ⟨by omega, trivial⟩, by omega, ?_⟩
          refine Le.al ?_
          simp only [List.forall_mem_cons]
          have hmx := depthsV_snoc (xs := xs) (i := i) (by omega)
          refine ⟨rfl, ?_, cnt (by omega), by simp⟩
          first | (show SV.d (.int .i64 (depthV xs[i] : Int)) = _; rw [hmx]; refine congrArg (fun n : Int => SV.d (.int .i64 n)) ?_; omega) | (show SV.d (.int .i64 (depthsV (xs.take i) : Int)) = _; rw [hmx]; refine congrArg (fun n : Int => SV.d (.int .i64 n)) ?_; omega)
      ·
        try simp only [Q0, Q1, Q2, Q3, Q4, Q5, Q6, Q7, Q8, ge_iff_le, gt_iff_lt] at hc8
        refine WP.exit ?_
        refine hK4 _ ?_
        refine WP.seq fun K13 hK13 => ?_
        refine WP.reg tabOk rfl ?_
        refine u_step (o_move rfl ?_)
        refine u_step (o_bin_int rfl rfl (by decide) rfl ?_)
        refine u_step (o_assign rfl ?_)
        refine u_nil ?_
        refine hK13 _ ?_
        refine WP.ret ?_
        refine ret_ok rfl ?_ (by omega) (fun t ht => (hk2 t (by omega)))
        -- ret 1
        refine congrArg (D.int .i64) ?_
        have h0 : xs.take i = xs := List.take_of_length_le (by omega)
        rw [h0, wrap_succ (by omega)]
        rfl
    ·
      simp
    ·
      refine Le.al ?_
      simp only [List.forall_mem_cons]
      exact ⟨rfl, rfl, rfl, by simp⟩
theorem s116 (v : Val) (hsz : szV v ≤ 1099511627776) : PSpec Tryz.prog 116 [.d (encV v)] (.d (.int .i64 (depthV v : Int))) := s116A _ v (Nat.lt_succ_self _) hsz

end Go.Proofs.YtpkcbdhjnnnkbaaGreat.Abs

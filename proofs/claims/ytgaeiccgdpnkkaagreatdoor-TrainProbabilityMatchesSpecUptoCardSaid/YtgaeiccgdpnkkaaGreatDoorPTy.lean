import Derived.Test.YtgaeiccgdpnkkaaGreatDoorProg
import Derived.Test.YtgaeiccgdpnkkaaGreatDoorPAm3
set_option linter.unusedVariables false
set_option linter.unusedSimpArgs false
namespace Go.Proofs.YtgaeiccgdpnkkaaGreatDoor
open Go Go.Am
theorem ty0 : Yk Tryz.prog 0 = ⟨1, 0, [.any], [.any], some (.any), .other⟩ := by kernel_rfl
theorem ty2 : Yk Tryz.prog 2 = ⟨1, 8, [.int .i64 0], [.int .i64 0], some (.int .i64 0), .int .i64⟩ := by kernel_rfl
theorem ty3 : Yk Tryz.prog 3 = ⟨1, 8, [.int .i64 0], [.int .i64 0], some (.int .i64 0), .int .i64⟩ := by kernel_rfl
theorem ty4 : Yk Tryz.prog 4 = ⟨1, 1, [.bool false], [.bool false], some (.bool false), .bool⟩ := by kernel_rfl
theorem ty5 : Yk Tryz.prog 5 = ⟨1, 1, [.int .u8 0], [.int .u8 0], some (.int .u8 0), .int .u8⟩ := by kernel_rfl
theorem ty7 : Yk Tryz.prog 7 = ⟨4, 24, [.int .i64 0, .int .i64 0, .bool false, .int .u8 0], [.int .i64 0, .int .i64 0, .bool false, .int .u8 0], some (.agg [.int .i64 0, .int .i64 0, .bool false, .int .u8 0]), .struct [(0, 1, false), (1, 1, false), (2, 1, false), (3, 1, false)]⟩ := by kernel_rfl
theorem ty9 : Yk Tryz.prog 9 = ⟨1, 16, [.str []], [.str []], some (.str []), .str⟩ := by kernel_rfl
theorem r5i : Yk Tryz.prog 12 = ⟨1, 8, [.int .u64 0], [.int .u64 0], some (.int .u64 0), .int .u64⟩ := by kernel_rfl
theorem r5j : Yk Tryz.prog 13 = ⟨2, 24, [.str [], .int .u64 0], [.str [], .int .u64 0], some (.agg [.str [], .int .u64 0]), .struct [(0, 1, false), (1, 1, false)]⟩ := by kernel_rfl
theorem r5k : Yk Tryz.prog 18 = ⟨1, 8, [.i5P], [.i5P], some (.agg [.i5P]), .struct [(0, 1, false)]⟩ := by kernel_rfl
theorem r5l : Yk Tryz.prog 21 = ⟨1, 4, [.int .i32 0], [.int .i32 0], some (.int .i32 0), .int .i32⟩ := by kernel_rfl
theorem r5m : Yk Tryz.prog 22 = ⟨1, 24, [.YU], [.sl false 2 40 []], some (.YU), .slice 204⟩ := by kernel_rfl
theorem r5n : Yk Tryz.prog 23 = ⟨1, 24, [.YU], [.sl false 3 32 []], some (.YU), .slice 183⟩ := by kernel_rfl
theorem r5o : Yk Tryz.prog 24 = ⟨2, 48, [.YU, .YU], [.sl false 2 40 [], .sl false 3 32 []], some (.agg [.YU, .YU]), .struct [(0, 1, false), (1, 1, false)]⟩ := by kernel_rfl
theorem r5p : Yk Tryz.prog 25 = ⟨2, 48, [.YU, .YU], [.sl false 2 40 [], .sl false 3 32 []], some (.agg [.YU, .YU]), .struct [(0, 1, false), (1, 1, false)]⟩ := by kernel_rfl
theorem r5q : Yk Tryz.prog 26 = ⟨1, 24, [.YU], [.sl false 10 152 []], some (.YU), .slice 124⟩ := by kernel_rfl
theorem r5r : Yk Tryz.prog 27 = ⟨1, 24, [.YU], [.sl false 9 144 []], some (.YU), .slice 132⟩ := by kernel_rfl
theorem r5s : Yk Tryz.prog 28 = ⟨1, 24, [.YU], [.sl false 2 32 []], some (.YU), .slice 163⟩ := by kernel_rfl
theorem r5t : Yk Tryz.prog 29 = ⟨1, 24, [.YU], [.sl false 2 32 []], some (.agg [.YU]), .struct [(0, 1, false)]⟩ := by kernel_rfl
theorem r5u : Yk Tryz.prog 30 = ⟨1, 24, [.YU], [.sl false 2 32 []], some (.agg [.YU]), .struct [(0, 1, false)]⟩ := by kernel_rfl
theorem r5v : Yk Tryz.prog 31 = ⟨5, 120, [.YU, .YU, .YU, .YU, .YU], [.sl false 2 40 [], .sl false 3 32 [], .sl false 10 152 [], .sl false 9 144 [], .sl false 2 32 []], some (.agg [.YU, .YU, .YU, .YU, .YU]), .struct [(0, 2, true), (2, 1, false), (3, 1, false), (4, 1, true)]⟩ := by kernel_rfl
theorem r5w : Yk Tryz.prog 32 = ⟨5, 120, [.YU, .YU, .YU, .YU, .YU], [.sl false 2 40 [], .sl false 3 32 [], .sl false 10 152 [], .sl false 9 144 [], .sl false 2 32 []], some (.agg [.YU, .YU, .YU, .YU, .YU]), .struct [(0, 2, true), (2, 1, false), (3, 1, false), (4, 1, true)]⟩ := by kernel_rfl
theorem r5x : Yk Tryz.prog 34 = ⟨1, 24, [.YU], [.sl false 2 48 []], some (.YU), .slice 25⟩ := by kernel_rfl
theorem r5y : Yk Tryz.prog 35 = ⟨1, 24, [.YU], [.sl false 1 24 []], some (.YU), .slice 30⟩ := by kernel_rfl
theorem r5z : Yk Tryz.prog 36 = ⟨1, 24, [.YU], [.sl false 3 40 []], some (.YU), .slice 54⟩ := by kernel_rfl
theorem r5A : Yk Tryz.prog 37 = ⟨1, 24, [.YU], [.sl false 3 40 []], some (.YU), .slice 56⟩ := by kernel_rfl
theorem r5B : Yk Tryz.prog 38 = ⟨4, 96, [.YU, .YU, .YU, .YU], [.sl false 2 48 [], .sl false 1 24 [], .sl false 3 40 [], .sl false 3 40 []], some (.agg [.YU, .YU, .YU, .YU]), .struct [(0, 1, false), (1, 1, false), (2, 1, false), (3, 1, false)]⟩ := by kernel_rfl
theorem r5C : Yk Tryz.prog 39 = ⟨4, 96, [.YU, .YU, .YU, .YU], [.sl false 2 48 [], .sl false 1 24 [], .sl false 3 40 [], .sl false 3 40 []], some (.agg [.YU, .YU, .YU, .YU]), .struct [(0, 1, false), (1, 1, false), (2, 1, false), (3, 1, false)]⟩ := by kernel_rfl
theorem r5D : Yk Tryz.prog 40 = ⟨2, 16, [.int .i64 0, .int .i64 0], [.int .i64 0, .int .i64 0], some (.agg [.int .i64 0, .int .i64 0]), .struct [(0, 1, false), (1, 1, false)]⟩ := by kernel_rfl
theorem r5E : Yk Tryz.prog 41 = ⟨2, 16, [.int .i64 0, .int .i64 0], [.int .i64 0, .int .i64 0], some (.agg [.int .i64 0, .int .i64 0]), .struct [(0, 1, false), (1, 1, false)]⟩ := by kernel_rfl
theorem r5F : Yk Tryz.prog 42 = ⟨1, 0, [.any], [.any], some (.any), .other⟩ := by kernel_rfl
theorem r5G : Yk Tryz.prog 46 = ⟨1, 0, [.any], [.any], some (.any), .other⟩ := by kernel_rfl
theorem r5H : Yk Tryz.prog 48 = ⟨1, 0, [.any], [.any], some (.any), .other⟩ := by kernel_rfl
theorem r5I : Yk Tryz.prog 53 = ⟨3, 40, [.int .i64 0, .int .i64 0, .YU], [.int .i64 0, .int .i64 0, .sl false 10 152 []], some (.agg [.int .i64 0, .int .i64 0, .YU]), .struct [(0, 1, false), (1, 1, false), (2, 1, false)]⟩ := by kernel_rfl
theorem r5J : Yk Tryz.prog 54 = ⟨3, 40, [.int .i64 0, .int .i64 0, .YU], [.int .i64 0, .int .i64 0, .sl false 10 152 []], some (.agg [.int .i64 0, .int .i64 0, .YU]), .struct [(0, 1, false), (1, 1, false), (2, 1, false)]⟩ := by kernel_rfl
theorem r5K : Yk Tryz.prog 55 = ⟨3, 40, [.int .i64 0, .int .i64 0, .YU], [.int .i64 0, .int .i64 0, .sl false 9 144 []], some (.agg [.int .i64 0, .int .i64 0, .YU]), .struct [(0, 1, false), (1, 1, false), (2, 1, false)]⟩ := by kernel_rfl
theorem r5L : Yk Tryz.prog 56 = ⟨3, 40, [.int .i64 0, .int .i64 0, .YU], [.int .i64 0, .int .i64 0, .sl false 9 144 []], some (.agg [.int .i64 0, .int .i64 0, .YU]), .struct [(0, 1, false), (1, 1, false), (2, 1, false)]⟩ := by kernel_rfl
theorem r5M : Yk Tryz.prog 59 = ⟨1, 24, [.YU], [.sl false 3 40 []], some (.YU), .slice 67⟩ := by kernel_rfl
theorem r5N : Yk Tryz.prog 60 = ⟨1, 24, [.YU], [.sl false 1 8 []], some (.YU), .slice 3⟩ := by kernel_rfl
theorem r5O : Yk Tryz.prog 61 = ⟨2, 48, [.YU, .YU], [.sl false 1 8 [], .sl false 1 8 []], some (.agg [.YU, .YU]), .struct [(0, 1, false), (1, 1, false)]⟩ := by kernel_rfl
theorem r5P : Yk Tryz.prog 62 = ⟨2, 48, [.YU, .YU], [.sl false 1 8 [], .sl false 1 8 []], some (.agg [.YU, .YU]), .struct [(0, 1, false), (1, 1, false)]⟩ := by kernel_rfl
theorem r5Q : Yk Tryz.prog 63 = ⟨1, 0, [.any], [.any], some (.any), .other⟩ := by kernel_rfl
theorem r5R : Yk Tryz.prog 66 = ⟨3, 40, [.int .i64 0, .int .i64 0, .YU], [.int .i64 0, .int .i64 0, .sl false 3 40 []], some (.agg [.int .i64 0, .int .i64 0, .YU]), .struct [(0, 1, false), (1, 1, false), (2, 1, false)]⟩ := by kernel_rfl
theorem r5S : Yk Tryz.prog 67 = ⟨3, 40, [.int .i64 0, .int .i64 0, .YU], [.int .i64 0, .int .i64 0, .sl false 3 40 []], some (.agg [.int .i64 0, .int .i64 0, .YU]), .struct [(0, 1, false), (1, 1, false), (2, 1, false)]⟩ := by kernel_rfl
theorem r5T : Yk Tryz.prog 70 = ⟨2, 16, [.int .i64 0, .int .i64 0], [.int .i64 0, .int .i64 0], some (.agg [.int .i64 0, .int .i64 0]), .struct [(0, 1, false), (1, 1, false)]⟩ := by kernel_rfl
theorem r5U : Yk Tryz.prog 71 = ⟨2, 16, [.int .i64 0, .int .i64 0], [.int .i64 0, .int .i64 0], some (.agg [.int .i64 0, .int .i64 0]), .struct [(0, 1, false), (1, 1, false)]⟩ := by kernel_rfl
theorem r5V : Yk Tryz.prog 72 = ⟨1, 0, [.any], [.any], some (.any), .other⟩ := by kernel_rfl
theorem r5W : Yk Tryz.prog 75 = ⟨1, 0, [.any], [.any], some (.any), .other⟩ := by kernel_rfl
theorem r5X : Yk Tryz.prog 78 = ⟨1, 24, [.YU], [.sl false 2 16 []], some (.YU), .slice 71⟩ := by kernel_rfl
theorem r5Y : Yk Tryz.prog 79 = ⟨1, 0, [.any], [.any], some (.any), .other⟩ := by kernel_rfl
theorem r5Z : Yk Tryz.prog 85 = ⟨1, 24, [.YU], [.sl false 5 40 []], some (.YU), .slice 91⟩ := by kernel_rfl
theorem r6a : Yk Tryz.prog 86 = ⟨1, 0, [.any], [.any], some (.any), .other⟩ := by kernel_rfl
theorem r6b : Yk Tryz.prog 92 = ⟨1, 24, [.YU], [.sl false 6 48 []], some (.YU), .slice 101⟩ := by kernel_rfl
theorem r6c : Yk Tryz.prog 93 = ⟨1, 0, [.any], [.any], some (.any), .other⟩ := by kernel_rfl
theorem r6d : Yk Tryz.prog 98 = ⟨1, 0, [.any], [.any], some (.any), .other⟩ := by kernel_rfl
theorem r3b : Yk Tryz.prog 104 = ⟨1, 0, [.any], [.any], some (.any), .other⟩ := by kernel_rfl
theorem r3c : Yk Tryz.prog 110 = ⟨1, 24, [.YU], [.sl false 5 120 []], some (.YU), .slice 32⟩ := by kernel_rfl
theorem r3d : Yk Tryz.prog 115 = ⟨1, 24, [.YU], [.sl false 3 40 []], some (.YU), .slice 127⟩ := by kernel_rfl
theorem r3e : Yk Tryz.prog 117 = ⟨1, 24, [.YU], [.sl false 2 40 []], some (.YU), .slice 119⟩ := by kernel_rfl
theorem r3f : Yk Tryz.prog 118 = ⟨2, 40, [.str [], .YU], [.str [], .sl false 2 40 []], some (.agg [.str [], .YU]), .struct [(0, 1, false), (1, 1, false)]⟩ := by kernel_rfl
theorem r3g : Yk Tryz.prog 119 = ⟨2, 40, [.str [], .YU], [.str [], .sl false 2 40 []], some (.agg [.str [], .YU]), .struct [(0, 1, false), (1, 1, false)]⟩ := by kernel_rfl
theorem r3h : Yk Tryz.prog 120 = ⟨1, 24, [.YU], [.sl false 6 96 []], some (.YU), .slice 122⟩ := by kernel_rfl
theorem r3i : Yk Tryz.prog 121 = ⟨6, 96, [.int .i64 0, .str [], .int .i64 0, .str [], .YU, .YU], [.int .i64 0, .str [], .int .i64 0, .str [], .sl false 2 40 [], .sl false 6 96 []], some (.agg [.int .i64 0, .str [], .int .i64 0, .str [], .YU, .YU]), .struct [(0, 1, false), (1, 1, false), (2, 1, false), (3, 2, true), (5, 1, false)]⟩ := by kernel_rfl
theorem r3j : Yk Tryz.prog 122 = ⟨6, 96, [.int .i64 0, .str [], .int .i64 0, .str [], .YU, .YU], [.int .i64 0, .str [], .int .i64 0, .str [], .sl false 2 40 [], .sl false 6 96 []], some (.agg [.int .i64 0, .str [], .int .i64 0, .str [], .YU, .YU]), .struct [(0, 1, false), (1, 1, false), (2, 1, false), (3, 2, true), (5, 1, false)]⟩ := by kernel_rfl
theorem r3k : Yk Tryz.prog 123 = ⟨10, 152, [.str [], .YU, .int .i64 0, .int .i64 0, .int .i64 0, .str [], .int .i64 0, .str [], .YU, .YU], [.str [], .sl false 2 32 [], .int .i64 0, .int .i64 0, .int .i64 0, .str [], .int .i64 0, .str [], .sl false 2 40 [], .sl false 6 96 []], some (.agg [.str [], .YU, .int .i64 0, .int .i64 0, .int .i64 0, .str [], .int .i64 0, .str [], .YU, .YU]), .struct [(0, 1, false), (1, 1, true), (2, 1, false), (3, 1, false), (4, 6, true)]⟩ := by kernel_rfl
theorem r3l : Yk Tryz.prog 124 = ⟨10, 152, [.str [], .YU, .int .i64 0, .int .i64 0, .int .i64 0, .str [], .int .i64 0, .str [], .YU, .YU], [.str [], .sl false 2 32 [], .int .i64 0, .int .i64 0, .int .i64 0, .str [], .int .i64 0, .str [], .sl false 2 40 [], .sl false 6 96 []], some (.agg [.str [], .YU, .int .i64 0, .int .i64 0, .int .i64 0, .str [], .int .i64 0, .str [], .YU, .YU]), .struct [(0, 1, false), (1, 1, true), (2, 1, false), (3, 1, false), (4, 6, true)]⟩ := by kernel_rfl
theorem r3m : Yk Tryz.prog 129 = ⟨1, 24, [.YU], [.sl false 3 40 []], some (.YU), .slice 135⟩ := by kernel_rfl
theorem r3n : Yk Tryz.prog 131 = ⟨9, 144, [.str [], .YU, .int .i64 0, .int .i64 0, .str [], .int .i64 0, .str [], .YU, .YU], [.str [], .sl false 2 32 [], .int .i64 0, .int .i64 0, .str [], .int .i64 0, .str [], .sl false 2 40 [], .sl false 6 96 []], some (.agg [.str [], .YU, .int .i64 0, .int .i64 0, .str [], .int .i64 0, .str [], .YU, .YU]), .struct [(0, 1, false), (1, 1, true), (2, 1, false), (3, 6, true)]⟩ := by kernel_rfl
theorem r3o : Yk Tryz.prog 132 = ⟨9, 144, [.str [], .YU, .int .i64 0, .int .i64 0, .str [], .int .i64 0, .str [], .YU, .YU], [.str [], .sl false 2 32 [], .int .i64 0, .int .i64 0, .str [], .int .i64 0, .str [], .sl false 2 40 [], .sl false 6 96 []], some (.agg [.str [], .YU, .int .i64 0, .int .i64 0, .str [], .int .i64 0, .str [], .YU, .YU]), .struct [(0, 1, false), (1, 1, true), (2, 1, false), (3, 6, true)]⟩ := by kernel_rfl
theorem r3p : Yk Tryz.prog 137 = ⟨1, 0, [.any], [.any], some (.any), .other⟩ := by kernel_rfl
theorem r3q : Yk Tryz.prog 139 = ⟨1, 0, [.any], [.any], some (.any), .other⟩ := by kernel_rfl
theorem r3r : Yk Tryz.prog 143 = ⟨1, 24, [.YU], [.sl false 1 24 []], some (.YU), .slice 144⟩ := by kernel_rfl
theorem r3s : Yk Tryz.prog 144 = ⟨1, 24, [.YU], [.sl false 1 1 []], some (.YU), .slice 4⟩ := by kernel_rfl
theorem r3t : Yk Tryz.prog 153 = ⟨1, 8, [.i0j], [.i0j], some (.i0j), .other⟩ := by kernel_rfl
theorem r3u : Yk Tryz.prog 155 = ⟨1, 8, [.i5P], [.i5P], some (.i5P), .ptr 3⟩ := by kernel_rfl
theorem r3v : Yk Tryz.prog 156 = ⟨1, 0, [.any], [.any], some (.any), .other⟩ := by kernel_rfl
theorem r3w : Yk Tryz.prog 161 = ⟨1, 24, [.YU], [.sl false 2 16 []], some (.YU), .slice 212⟩ := by kernel_rfl
theorem r3x : Yk Tryz.prog 162 = ⟨2, 32, [.int .i64 0, .YU], [.int .i64 0, .sl false 2 16 []], some (.agg [.int .i64 0, .YU]), .struct [(0, 1, false), (1, 1, false)]⟩ := by kernel_rfl
theorem r3y : Yk Tryz.prog 163 = ⟨2, 32, [.int .i64 0, .YU], [.int .i64 0, .sl false 2 16 []], some (.agg [.int .i64 0, .YU]), .struct [(0, 1, false), (1, 1, false)]⟩ := by kernel_rfl
theorem r3z : Yk Tryz.prog 169 = ⟨1, 24, [.YU], [.sl false 1 24 []], some (.YU), .slice 85⟩ := by kernel_rfl
theorem r3A : Yk Tryz.prog 171 = ⟨1, 24, [.YU], [.sl false 1 16 []], some (.YU), .slice 9⟩ := by kernel_rfl
theorem r3B : Yk Tryz.prog 182 = ⟨3, 32, [.str [], .int .i64 0, .int .i64 0], [.str [], .int .i64 0, .int .i64 0], some (.agg [.str [], .int .i64 0, .int .i64 0]), .struct [(0, 1, false), (1, 1, false), (2, 1, false)]⟩ := by kernel_rfl
theorem r3C : Yk Tryz.prog 183 = ⟨3, 32, [.str [], .int .i64 0, .int .i64 0], [.str [], .int .i64 0, .int .i64 0], some (.agg [.str [], .int .i64 0, .int .i64 0]), .struct [(0, 1, false), (1, 1, false), (2, 1, false)]⟩ := by kernel_rfl
theorem r3D : Yk Tryz.prog 186 = ⟨1, 24, [.YU], [.sl false 1 24 []], some (.YU), .slice 60⟩ := by kernel_rfl
theorem r3E : Yk Tryz.prog 187 = ⟨1, 8, [.i0j], [.i0j], some (.i0j), .other⟩ := by kernel_rfl
theorem r3F : Yk Tryz.prog 193 = ⟨1, 24, [.YU], [.sl false 1 8 []], some (.YU), .slice 230⟩ := by kernel_rfl
theorem r3G : Yk Tryz.prog 194 = ⟨2, 48, [.YU, .YU], [.sl false 1 8 [], .sl false 1 8 []], some (.agg [.YU, .YU]), .struct [(0, 1, false), (1, 1, false)]⟩ := by kernel_rfl
theorem r3H : Yk Tryz.prog 195 = ⟨2, 48, [.YU, .YU], [.sl false 1 8 [], .sl false 1 8 []], some (.agg [.YU, .YU]), .struct [(0, 1, false), (1, 1, false)]⟩ := by kernel_rfl
theorem r3I : Yk Tryz.prog 197 = ⟨1, 8, [.i9J], [.i9J], some (.i9J), .map 9 3⟩ := by kernel_rfl
theorem r3J : Yk Tryz.prog 198 = ⟨1, 0, [.any], [.any], some (.any), .other⟩ := by kernel_rfl
theorem r3K : Yk Tryz.prog 203 = ⟨2, 40, [.str [], .YU], [.str [], .sl false 1 8 []], some (.agg [.str [], .YU]), .struct [(0, 1, false), (1, 1, false)]⟩ := by kernel_rfl
theorem r3L : Yk Tryz.prog 204 = ⟨2, 40, [.str [], .YU], [.str [], .sl false 1 8 []], some (.agg [.str [], .YU]), .struct [(0, 1, false), (1, 1, false)]⟩ := by kernel_rfl
theorem r3M : Yk Tryz.prog 211 = ⟨2, 16, [.int .i64 0, .int .i64 0], [.int .i64 0, .int .i64 0], some (.agg [.int .i64 0, .int .i64 0]), .struct [(0, 1, false), (1, 1, false)]⟩ := by kernel_rfl
theorem r3N : Yk Tryz.prog 212 = ⟨2, 16, [.int .i64 0, .int .i64 0], [.int .i64 0, .int .i64 0], some (.agg [.int .i64 0, .int .i64 0]), .struct [(0, 1, false), (1, 1, false)]⟩ := by kernel_rfl
theorem r3O : Yk Tryz.prog 221 = ⟨1, 24, [.YU], [.sl false 1 1 []], some (.YU), .slice 5⟩ := by kernel_rfl
theorem r3P : Yk Tryz.prog 225 = ⟨1, 8, [.i0j], [.i0j], some (.i0j), .other⟩ := by kernel_rfl
theorem r3Q : Yk Tryz.prog 226 = ⟨1, 8, [.i0j], [.i0j], some (.i0j), .other⟩ := by kernel_rfl
theorem r3R : Yk Tryz.prog 227 = ⟨1, 8, [.i0j], [.i0j], some (.i0j), .other⟩ := by kernel_rfl
theorem r3S : Yk Tryz.prog 230 = ⟨1, 8, [.int .u64 0], [.int .u64 0], some (.int .u64 0), .int .u64⟩ := by kernel_rfl
theorem r3T : Yk Tryz.prog 231 = ⟨2, 16, [.int .u64 0, .int .u64 0], [.int .u64 0, .int .u64 0], some (.agg [.int .u64 0, .int .u64 0]), .struct [(0, 1, false), (1, 1, false)]⟩ := by kernel_rfl
theorem r3U : Yk Tryz.prog 232 = ⟨2, 16, [.int .u64 0, .int .u64 0], [.int .u64 0, .int .u64 0], some (.agg [.int .u64 0, .int .u64 0]), .struct [(0, 1, false), (1, 1, false)]⟩ := by kernel_rfl
theorem r3V : Yk Tryz.prog 236 = ⟨1, 0, [.any], [.any], some (.any), .other⟩ := by kernel_rfl
theorem r3W : Yk Tryz.prog 239 = ⟨1, 0, [.any], [.any], some (.any), .other⟩ := by kernel_rfl
theorem r3X : Yk Tryz.prog 252 = ⟨1, 0, [.any], [.any], some (.any), .other⟩ := by kernel_rfl
theorem r3Y : Yk Tryz.prog 263 = ⟨1, 8, [.i0j], [.i0j], some (.i0j), .other⟩ := by kernel_rfl
theorem r3Z : Yk Tryz.prog 267 = ⟨1, 8, [.int .u64 0], [.int .u64 0], some (.int .u64 0), .int .u64⟩ := by kernel_rfl
theorem r4a : Yk Tryz.prog 279 = ⟨1, 8, [.i0j], [.i0j], some (.i0j), .other⟩ := by kernel_rfl
theorem r4b : Yk Tryz.prog 280 = ⟨1, 8, [.i0j], [.i0j], some (.i0j), .other⟩ := by kernel_rfl
theorem r4c : Yk Tryz.prog 283 = ⟨1, 0, [.any], [.any], some (.any), .other⟩ := by kernel_rfl
theorem r4d : Yk Tryz.prog 287 = ⟨8, 112, [.int .i64 0, .str [], .int .i64 0, .str [], .YU, .YU, .int .i64 0, .int .i64 0], [.int .i64 0, .str [], .int .i64 0, .str [], .sl false 2 40 [], .sl false 6 96 [], .int .i64 0, .int .i64 0], some (.agg [.int .i64 0, .str [], .int .i64 0, .str [], .YU, .YU, .int .i64 0, .int .i64 0]), .struct [(0, 6, true), (6, 1, false), (7, 1, false)]⟩ := by kernel_rfl
theorem r4e : Yk Tryz.prog 288 = ⟨8, 112, [.int .i64 0, .str [], .int .i64 0, .str [], .YU, .YU, .int .i64 0, .int .i64 0], [.int .i64 0, .str [], .int .i64 0, .str [], .sl false 2 40 [], .sl false 6 96 [], .int .i64 0, .int .i64 0], some (.agg [.int .i64 0, .str [], .int .i64 0, .str [], .YU, .YU, .int .i64 0, .int .i64 0]), .struct [(0, 6, true), (6, 1, false), (7, 1, false)]⟩ := by kernel_rfl
theorem r4f : Yk Tryz.prog 289 = ⟨1, 24, [.YU], [.sl false 8 112 []], some (.YU), .slice 288⟩ := by kernel_rfl
theorem r4g : Yk Tryz.prog 301 = ⟨1, 4, [.int .u32 0], [.int .u32 0], some (.int .u32 0), .int .u32⟩ := by kernel_rfl
theorem r4h : Yk Tryz.prog 302 = ⟨64, 64, [.int .u8 0, .int .u8 0, .int .u8 0, .int .u8 0, .int .u8 0, .int .u8 0, .int .u8 0, .int .u8 0, .int .u8 0, .int .u8 0, .int .u8 0, .int .u8 0, .int .u8 0, .int .u8 0, .int .u8 0, .int .u8 0, .int .u8 0, .int .u8 0, .int .u8 0, .int .u8 0, .int .u8 0, .int .u8 0, .int .u8 0, .int .u8 0, .int .u8 0, .int .u8 0, .int .u8 0, .int .u8 0, .int .u8 0, .int .u8 0, .int .u8 0, .int .u8 0, .int .u8 0, .int .u8 0, .int .u8 0, .int .u8 0, .int .u8 0, .int .u8 0, .int .u8 0, .int .u8 0, .int .u8 0, .int .u8 0, .int .u8 0, .int .u8 0, .int .u8 0, .int .u8 0, .int .u8 0, .int .u8 0, .int .u8 0, .int .u8 0, .int .u8 0, .int .u8 0, .int .u8 0, .int .u8 0, .int .u8 0, .int .u8 0, .int .u8 0, .int .u8 0, .int .u8 0, .int .u8 0, .int .u8 0, .int .u8 0, .int .u8 0, .int .u8 0], [.int .u8 0, .int .u8 0, .int .u8 0, .int .u8 0, .int .u8 0, .int .u8 0, .int .u8 0, .int .u8 0, .int .u8 0, .int .u8 0, .int .u8 0, .int .u8 0, .int .u8 0, .int .u8 0, .int .u8 0, .int .u8 0, .int .u8 0, .int .u8 0, .int .u8 0, .int .u8 0, .int .u8 0, .int .u8 0, .int .u8 0, .int .u8 0, .int .u8 0, .int .u8 0, .int .u8 0, .int .u8 0, .int .u8 0, .int .u8 0, .int .u8 0, .int .u8 0, .int .u8 0, .int .u8 0, .int .u8 0, .int .u8 0, .int .u8 0, .int .u8 0, .int .u8 0, .int .u8 0, .int .u8 0, .int .u8 0, .int .u8 0, .int .u8 0, .int .u8 0, .int .u8 0, .int .u8 0, .int .u8 0, .int .u8 0, .int .u8 0, .int .u8 0, .int .u8 0, .int .u8 0, .int .u8 0, .int .u8 0, .int .u8 0, .int .u8 0, .int .u8 0, .int .u8 0, .int .u8 0, .int .u8 0, .int .u8 0, .int .u8 0, .int .u8 0], some (.agg [.int .u8 0, .int .u8 0, .int .u8 0, .int .u8 0, .int .u8 0, .int .u8 0, .int .u8 0, .int .u8 0, .int .u8 0, .int .u8 0, .int .u8 0, .int .u8 0, .int .u8 0, .int .u8 0, .int .u8 0, .int .u8 0, .int .u8 0, .int .u8 0, .int .u8 0, .int .u8 0, .int .u8 0, .int .u8 0, .int .u8 0, .int .u8 0, .int .u8 0, .int .u8 0, .int .u8 0, .int .u8 0, .int .u8 0, .int .u8 0, .int .u8 0, .int .u8 0, .int .u8 0, .int .u8 0, .int .u8 0, .int .u8 0, .int .u8 0, .int .u8 0, .int .u8 0, .int .u8 0, .int .u8 0, .int .u8 0, .int .u8 0, .int .u8 0, .int .u8 0, .int .u8 0, .int .u8 0, .int .u8 0, .int .u8 0, .int .u8 0, .int .u8 0, .int .u8 0, .int .u8 0, .int .u8 0, .int .u8 0, .int .u8 0, .int .u8 0, .int .u8 0, .int .u8 0, .int .u8 0, .int .u8 0, .int .u8 0, .int .u8 0, .int .u8 0]), .arr 64 5⟩ := by kernel_rfl
theorem r4i : Yk Tryz.prog 303 = ⟨1, 8, [.i0j], [.i0j], some (.i0j), .other⟩ := by kernel_rfl
theorem r4j : Yk Tryz.prog 305 = ⟨256, 256, (List.replicate 256 (.int .u8 0)), [], some (.agg (List.replicate 256 (.int .u8 0))), .arr 256 5⟩ := by kernel_rfl
theorem r4k : Yk Tryz.prog 306 = ⟨2, 2, [.int .u8 0, .int .u8 0], [.int .u8 0, .int .u8 0], some (.agg [.int .u8 0, .int .u8 0]), .struct [(0, 1, false), (1, 1, false)]⟩ := by kernel_rfl
theorem r4l : Yk Tryz.prog 307 = ⟨2, 2, [.int .u8 0, .int .u8 0], [.int .u8 0, .int .u8 0], some (.agg [.int .u8 0, .int .u8 0]), .struct [(0, 1, false), (1, 1, false)]⟩ := by kernel_rfl
theorem r4m : Yk Tryz.prog 308 = ⟨32, 32, [.int .u8 0, .int .u8 0, .int .u8 0, .int .u8 0, .int .u8 0, .int .u8 0, .int .u8 0, .int .u8 0, .int .u8 0, .int .u8 0, .int .u8 0, .int .u8 0, .int .u8 0, .int .u8 0, .int .u8 0, .int .u8 0, .int .u8 0, .int .u8 0, .int .u8 0, .int .u8 0, .int .u8 0, .int .u8 0, .int .u8 0, .int .u8 0, .int .u8 0, .int .u8 0, .int .u8 0, .int .u8 0, .int .u8 0, .int .u8 0, .int .u8 0, .int .u8 0], [.int .u8 0, .int .u8 0, .int .u8 0, .int .u8 0, .int .u8 0, .int .u8 0, .int .u8 0, .int .u8 0, .int .u8 0, .int .u8 0, .int .u8 0, .int .u8 0, .int .u8 0, .int .u8 0, .int .u8 0, .int .u8 0, .int .u8 0, .int .u8 0, .int .u8 0, .int .u8 0, .int .u8 0, .int .u8 0, .int .u8 0, .int .u8 0, .int .u8 0, .int .u8 0, .int .u8 0, .int .u8 0, .int .u8 0, .int .u8 0, .int .u8 0, .int .u8 0], some (.agg [.int .u8 0, .int .u8 0, .int .u8 0, .int .u8 0, .int .u8 0, .int .u8 0, .int .u8 0, .int .u8 0, .int .u8 0, .int .u8 0, .int .u8 0, .int .u8 0, .int .u8 0, .int .u8 0, .int .u8 0, .int .u8 0, .int .u8 0, .int .u8 0, .int .u8 0, .int .u8 0, .int .u8 0, .int .u8 0, .int .u8 0, .int .u8 0, .int .u8 0, .int .u8 0, .int .u8 0, .int .u8 0, .int .u8 0, .int .u8 0, .int .u8 0, .int .u8 0]), .arr 16 307⟩ := by kernel_rfl
theorem r4n : Yk Tryz.prog 310 = ⟨3, 48, [.str [], .YU, .int .i64 0], [.str [], .sl false 2 40 [], .int .i64 0], some (.agg [.str [], .YU, .int .i64 0]), .struct [(0, 2, true), (2, 1, false)]⟩ := by kernel_rfl
theorem r4o : Yk Tryz.prog 311 = ⟨3, 48, [.str [], .YU, .int .i64 0], [.str [], .sl false 2 40 [], .int .i64 0], some (.agg [.str [], .YU, .int .i64 0]), .struct [(0, 2, true), (2, 1, false)]⟩ := by kernel_rfl
theorem r4p : Yk Tryz.prog 312 = ⟨1, 24, [.YU], [.sl false 3 48 []], some (.YU), .slice 311⟩ := by kernel_rfl
theorem r4q : Yk Tryz.prog 313 = ⟨1, 24, [.YU], [.sl false 7 104 []], some (.YU), .slice 316⟩ := by kernel_rfl
theorem r4r : Yk Tryz.prog 315 = ⟨7, 104, [.int .i64 0, .str [], .str [], .YU, .int .i64 0, .YU, .int .i64 0], [.int .i64 0, .str [], .str [], .sl false 2 40 [], .int .i64 0, .sl false 1 8 [], .int .i64 0], some (.agg [.int .i64 0, .str [], .str [], .YU, .int .i64 0, .YU, .int .i64 0]), .struct [(0, 1, false), (1, 1, false), (2, 2, true), (4, 1, false), (5, 1, false), (6, 1, false)]⟩ := by kernel_rfl
theorem r4s : Yk Tryz.prog 316 = ⟨7, 104, [.int .i64 0, .str [], .str [], .YU, .int .i64 0, .YU, .int .i64 0], [.int .i64 0, .str [], .str [], .sl false 2 40 [], .int .i64 0, .sl false 1 8 [], .int .i64 0], some (.agg [.int .i64 0, .str [], .str [], .YU, .int .i64 0, .YU, .int .i64 0]), .struct [(0, 1, false), (1, 1, false), (2, 2, true), (4, 1, false), (5, 1, false), (6, 1, false)]⟩ := by kernel_rfl
theorem r4t : Yk Tryz.prog 324 = ⟨256, 256, (List.replicate 256 (.bool false)), [], some (.agg (List.replicate 256 (.bool false))), .arr 256 4⟩ := by kernel_rfl
theorem r4u : Yk Tryz.prog 325 = ⟨256, 256, (List.replicate 256 (.bool false)), [], some (.agg (List.replicate 256 (.bool false))), .arr 256 4⟩ := by kernel_rfl
theorem r4v : Yk Tryz.prog 326 = ⟨1, 0, [.any], [.any], some (.any), .other⟩ := by kernel_rfl
theorem r4w : Yk Tryz.prog 336 = ⟨1, 8, [.i5P], [.i5P], some (.i5P), .ptr 325⟩ := by kernel_rfl
theorem r4x : Yk Tryz.prog 348 = ⟨1, 8, [.i5P], [.i5P], some (.i5P), .ptr 5⟩ := by kernel_rfl
theorem fk7 : YV Tryz.prog 7 = some [1, 1, 3, 1] := by kernel_rfl
theorem r6e : YV Tryz.prog 24 = some [0, 0] := by kernel_rfl
theorem r6f : YV Tryz.prog 25 = some [0, 0] := by kernel_rfl
theorem r6g : YV Tryz.prog 29 = some [0] := by kernel_rfl
theorem r6h : YV Tryz.prog 30 = some [0] := by kernel_rfl
theorem r6i : YV Tryz.prog 38 = some [0, 0, 0, 0] := by kernel_rfl
theorem r6j : YV Tryz.prog 39 = some [0, 0, 0, 0] := by kernel_rfl
theorem r6k : YV Tryz.prog 40 = some [1, 1] := by kernel_rfl
theorem r6l : YV Tryz.prog 41 = some [1, 1] := by kernel_rfl
theorem r6m : YV Tryz.prog 53 = some [1, 1, 0] := by kernel_rfl
theorem r6n : YV Tryz.prog 54 = some [1, 1, 0] := by kernel_rfl
theorem r6o : YV Tryz.prog 55 = some [1, 1, 0] := by kernel_rfl
theorem r6p : YV Tryz.prog 56 = some [1, 1, 0] := by kernel_rfl
theorem r6q : YV Tryz.prog 61 = some [0, 0] := by kernel_rfl
theorem r6r : YV Tryz.prog 62 = some [0, 0] := by kernel_rfl
theorem r6s : YV Tryz.prog 66 = some [1, 1, 0] := by kernel_rfl
theorem r6t : YV Tryz.prog 67 = some [1, 1, 0] := by kernel_rfl
theorem r6u : YV Tryz.prog 70 = some [1, 1] := by kernel_rfl
theorem r6v : YV Tryz.prog 71 = some [1, 1] := by kernel_rfl
theorem r4y : YV Tryz.prog 118 = some [2, 0] := by kernel_rfl
theorem r4z : YV Tryz.prog 119 = some [2, 0] := by kernel_rfl
theorem r4A : YV Tryz.prog 123 = some [2, 0, 1, 1, 0] := by kernel_rfl
theorem r4B : YV Tryz.prog 124 = some [2, 0, 1, 1, 0] := by kernel_rfl
theorem r4C : YV Tryz.prog 131 = some [2, 0, 1, 0] := by kernel_rfl
theorem r4D : YV Tryz.prog 132 = some [2, 0, 1, 0] := by kernel_rfl
theorem r4E : YV Tryz.prog 162 = some [1, 0] := by kernel_rfl
theorem r4F : YV Tryz.prog 163 = some [1, 0] := by kernel_rfl
theorem r4G : YV Tryz.prog 182 = some [2, 1, 1] := by kernel_rfl
theorem r4H : YV Tryz.prog 183 = some [2, 1, 1] := by kernel_rfl
theorem r4I : YV Tryz.prog 194 = some [0, 0] := by kernel_rfl
theorem r4J : YV Tryz.prog 195 = some [0, 0] := by kernel_rfl
theorem r4K : YV Tryz.prog 203 = some [2, 0] := by kernel_rfl
theorem r4L : YV Tryz.prog 204 = some [2, 0] := by kernel_rfl
theorem r4M : YV Tryz.prog 211 = some [1, 1] := by kernel_rfl
theorem r4N : YV Tryz.prog 212 = some [1, 1] := by kernel_rfl
theorem r4O : YV Tryz.prog 231 = some [1, 1] := by kernel_rfl
theorem r4P : YV Tryz.prog 232 = some [1, 1] := by kernel_rfl
theorem r4Q : YV Tryz.prog 306 = some [1, 1] := by kernel_rfl
theorem r4R : YV Tryz.prog 307 = some [1, 1] := by kernel_rfl
attribute [go_sem] ty0 ty2 ty3 ty4 ty5 ty7 ty9 r5i r5j r5k r5l r5m r5n r5o r5p r5q r5r r5s r5t r5u r5v r5w r5x r5y r5z r5A r5B r5C r5D r5E r5F r5G r5H r5I r5J r5K r5L r5M r5N r5O r5P r5Q r5R r5S r5T r5U r5V r5W r5X r5Y r5Z r6a r6b r6c r6d r3b r3c r3d r3e r3f r3g r3h r3i r3j r3k r3l r3m r3n r3o r3p r3q r3r r3s r3t r3u r3v r3w r3x r3y r3z r3A r3B r3C r3D r3E r3F r3G r3H r3I r3J r3K r3L r3M r3N r3O r3P r3Q r3R r3S r3T r3U r3V r3W r3X r3Y r3Z r4a r4b r4c r4d r4e r4f r4g r4h r4i r4j r4k r4l r4m r4n r4o r4p r4q r4r r4s r4t r4u r4v r4w r4x fk7 r6e r6f r6g r6h r6i r6j r6k r6l r6m r6n r6o r6p r6q r6r r6s r6t r6u r6v r4y r4z r4A r4B r4C r4D r4E r4F r4G r4H r4I r4J r4K r4L r4M r4N r4O r4P r4Q r4R 
end Go.Proofs.YtgaeiccgdpnkkaaGreatDoor

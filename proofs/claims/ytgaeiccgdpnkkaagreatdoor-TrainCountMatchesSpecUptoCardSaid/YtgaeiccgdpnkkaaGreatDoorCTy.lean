import Derived.Test.YtgaeiccgdpnkkaaGreatDoorProg
import Derived.Test.YtgaeiccgdpnkkaaGreatDoorCAm3
set_option linter.unusedVariables false
set_option linter.unusedSimpArgs false
namespace Go.Proofs.YtgaeiccgdpnkkaaGreatDoor
open Go Go.Am
theorem ty0 : Yk Tryz.prog 0 = ⟨1, 0, [.any], [.any], some (.any), .other⟩ := by kernel_rfl
theorem ty2 : Yk Tryz.prog 2 = ⟨1, 8, [.int .i64 0], [.int .i64 0], some (.int .i64 0), .int .i64⟩ := by kernel_rfl
theorem ty3 : Yk Tryz.prog 3 = ⟨1, 8, [.int .i64 0], [.int .i64 0], some (.int .i64 0), .int .i64⟩ := by kernel_rfl
theorem ty4 : Yk Tryz.prog 4 = ⟨1, 1, [.bool false], [.bool false], some (.bool false), .bool⟩ := by kernel_rfl
theorem ty5 : Yk Tryz.prog 5 = ⟨1, 1, [.int .u8 0], [.int .u8 0], some (.int .u8 0), .int .u8⟩ := by kernel_rfl
theorem ty7 : Yk Tryz.prog 7 = ⟨4, 24, [.int .i64 0, .int .i64 0, .bool false, .int .u8 0], [.int .i64 0, .int .i64 0, .bool false, .int .u8 0], some (.agg [.int .i64 0, .int .i64 0, .bool false, .int .u8 0]), .struct [(0, 1, false), (1, 1, false), (2, 1, false), (3, 1, false)]⟩ := by kernel_rfl
theorem ty9 : Yk Tryz.prog 9 = ⟨1, 16, [.str []], [.str []], some (.str []), .str⟩ := by kernel_rfl
theorem r2R : Yk Tryz.prog 12 = ⟨1, 8, [.int .u64 0], [.int .u64 0], some (.int .u64 0), .int .u64⟩ := by kernel_rfl
theorem r2S : Yk Tryz.prog 13 = ⟨2, 24, [.str [], .int .u64 0], [.str [], .int .u64 0], some (.agg [.str [], .int .u64 0]), .struct [(0, 1, false), (1, 1, false)]⟩ := by kernel_rfl
theorem r2T : Yk Tryz.prog 18 = ⟨1, 8, [.i4m], [.i4m], some (.agg [.i4m]), .struct [(0, 1, false)]⟩ := by kernel_rfl
theorem r2U : Yk Tryz.prog 21 = ⟨1, 4, [.int .i32 0], [.int .i32 0], some (.int .i32 0), .int .i32⟩ := by kernel_rfl
theorem r2V : Yk Tryz.prog 22 = ⟨1, 24, [.YP], [.sl false 2 40 []], some (.YP), .slice 204⟩ := by kernel_rfl
theorem r2W : Yk Tryz.prog 23 = ⟨1, 24, [.YP], [.sl false 3 32 []], some (.YP), .slice 183⟩ := by kernel_rfl
theorem r2X : Yk Tryz.prog 24 = ⟨2, 48, [.YP, .YP], [.sl false 2 40 [], .sl false 3 32 []], some (.agg [.YP, .YP]), .struct [(0, 1, false), (1, 1, false)]⟩ := by kernel_rfl
theorem r2Y : Yk Tryz.prog 25 = ⟨2, 48, [.YP, .YP], [.sl false 2 40 [], .sl false 3 32 []], some (.agg [.YP, .YP]), .struct [(0, 1, false), (1, 1, false)]⟩ := by kernel_rfl
theorem r2Z : Yk Tryz.prog 26 = ⟨1, 24, [.YP], [.sl false 10 152 []], some (.YP), .slice 124⟩ := by kernel_rfl
theorem r3a : Yk Tryz.prog 27 = ⟨1, 24, [.YP], [.sl false 9 144 []], some (.YP), .slice 132⟩ := by kernel_rfl
theorem r3b : Yk Tryz.prog 28 = ⟨1, 24, [.YP], [.sl false 2 32 []], some (.YP), .slice 163⟩ := by kernel_rfl
theorem r3c : Yk Tryz.prog 29 = ⟨1, 24, [.YP], [.sl false 2 32 []], some (.agg [.YP]), .struct [(0, 1, false)]⟩ := by kernel_rfl
theorem r3d : Yk Tryz.prog 30 = ⟨1, 24, [.YP], [.sl false 2 32 []], some (.agg [.YP]), .struct [(0, 1, false)]⟩ := by kernel_rfl
theorem r3e : Yk Tryz.prog 31 = ⟨5, 120, [.YP, .YP, .YP, .YP, .YP], [.sl false 2 40 [], .sl false 3 32 [], .sl false 10 152 [], .sl false 9 144 [], .sl false 2 32 []], some (.agg [.YP, .YP, .YP, .YP, .YP]), .struct [(0, 2, true), (2, 1, false), (3, 1, false), (4, 1, true)]⟩ := by kernel_rfl
theorem r3f : Yk Tryz.prog 32 = ⟨5, 120, [.YP, .YP, .YP, .YP, .YP], [.sl false 2 40 [], .sl false 3 32 [], .sl false 10 152 [], .sl false 9 144 [], .sl false 2 32 []], some (.agg [.YP, .YP, .YP, .YP, .YP]), .struct [(0, 2, true), (2, 1, false), (3, 1, false), (4, 1, true)]⟩ := by kernel_rfl
theorem r3g : Yk Tryz.prog 34 = ⟨1, 24, [.YP], [.sl false 2 48 []], some (.YP), .slice 25⟩ := by kernel_rfl
theorem r3h : Yk Tryz.prog 35 = ⟨1, 24, [.YP], [.sl false 1 24 []], some (.YP), .slice 30⟩ := by kernel_rfl
theorem r3i : Yk Tryz.prog 36 = ⟨1, 24, [.YP], [.sl false 3 40 []], some (.YP), .slice 54⟩ := by kernel_rfl
theorem r3j : Yk Tryz.prog 37 = ⟨1, 24, [.YP], [.sl false 3 40 []], some (.YP), .slice 56⟩ := by kernel_rfl
theorem r3k : Yk Tryz.prog 38 = ⟨4, 96, [.YP, .YP, .YP, .YP], [.sl false 2 48 [], .sl false 1 24 [], .sl false 3 40 [], .sl false 3 40 []], some (.agg [.YP, .YP, .YP, .YP]), .struct [(0, 1, false), (1, 1, false), (2, 1, false), (3, 1, false)]⟩ := by kernel_rfl
theorem r3l : Yk Tryz.prog 39 = ⟨4, 96, [.YP, .YP, .YP, .YP], [.sl false 2 48 [], .sl false 1 24 [], .sl false 3 40 [], .sl false 3 40 []], some (.agg [.YP, .YP, .YP, .YP]), .struct [(0, 1, false), (1, 1, false), (2, 1, false), (3, 1, false)]⟩ := by kernel_rfl
theorem r3m : Yk Tryz.prog 40 = ⟨2, 16, [.int .i64 0, .int .i64 0], [.int .i64 0, .int .i64 0], some (.agg [.int .i64 0, .int .i64 0]), .struct [(0, 1, false), (1, 1, false)]⟩ := by kernel_rfl
theorem r3n : Yk Tryz.prog 41 = ⟨2, 16, [.int .i64 0, .int .i64 0], [.int .i64 0, .int .i64 0], some (.agg [.int .i64 0, .int .i64 0]), .struct [(0, 1, false), (1, 1, false)]⟩ := by kernel_rfl
theorem r3o : Yk Tryz.prog 42 = ⟨1, 0, [.any], [.any], some (.any), .other⟩ := by kernel_rfl
theorem r3p : Yk Tryz.prog 46 = ⟨1, 0, [.any], [.any], some (.any), .other⟩ := by kernel_rfl
theorem r3q : Yk Tryz.prog 48 = ⟨1, 0, [.any], [.any], some (.any), .other⟩ := by kernel_rfl
theorem r3r : Yk Tryz.prog 53 = ⟨3, 40, [.int .i64 0, .int .i64 0, .YP], [.int .i64 0, .int .i64 0, .sl false 10 152 []], some (.agg [.int .i64 0, .int .i64 0, .YP]), .struct [(0, 1, false), (1, 1, false), (2, 1, false)]⟩ := by kernel_rfl
theorem r3s : Yk Tryz.prog 54 = ⟨3, 40, [.int .i64 0, .int .i64 0, .YP], [.int .i64 0, .int .i64 0, .sl false 10 152 []], some (.agg [.int .i64 0, .int .i64 0, .YP]), .struct [(0, 1, false), (1, 1, false), (2, 1, false)]⟩ := by kernel_rfl
theorem r3t : Yk Tryz.prog 55 = ⟨3, 40, [.int .i64 0, .int .i64 0, .YP], [.int .i64 0, .int .i64 0, .sl false 9 144 []], some (.agg [.int .i64 0, .int .i64 0, .YP]), .struct [(0, 1, false), (1, 1, false), (2, 1, false)]⟩ := by kernel_rfl
theorem r3u : Yk Tryz.prog 56 = ⟨3, 40, [.int .i64 0, .int .i64 0, .YP], [.int .i64 0, .int .i64 0, .sl false 9 144 []], some (.agg [.int .i64 0, .int .i64 0, .YP]), .struct [(0, 1, false), (1, 1, false), (2, 1, false)]⟩ := by kernel_rfl
theorem r3v : Yk Tryz.prog 59 = ⟨1, 24, [.YP], [.sl false 3 40 []], some (.YP), .slice 67⟩ := by kernel_rfl
theorem r3w : Yk Tryz.prog 60 = ⟨1, 24, [.YP], [.sl false 1 8 []], some (.YP), .slice 3⟩ := by kernel_rfl
theorem r3x : Yk Tryz.prog 61 = ⟨2, 48, [.YP, .YP], [.sl false 1 8 [], .sl false 1 8 []], some (.agg [.YP, .YP]), .struct [(0, 1, false), (1, 1, false)]⟩ := by kernel_rfl
theorem r3y : Yk Tryz.prog 62 = ⟨2, 48, [.YP, .YP], [.sl false 1 8 [], .sl false 1 8 []], some (.agg [.YP, .YP]), .struct [(0, 1, false), (1, 1, false)]⟩ := by kernel_rfl
theorem r3z : Yk Tryz.prog 63 = ⟨1, 0, [.any], [.any], some (.any), .other⟩ := by kernel_rfl
theorem r3A : Yk Tryz.prog 66 = ⟨3, 40, [.int .i64 0, .int .i64 0, .YP], [.int .i64 0, .int .i64 0, .sl false 3 40 []], some (.agg [.int .i64 0, .int .i64 0, .YP]), .struct [(0, 1, false), (1, 1, false), (2, 1, false)]⟩ := by kernel_rfl
theorem r3B : Yk Tryz.prog 67 = ⟨3, 40, [.int .i64 0, .int .i64 0, .YP], [.int .i64 0, .int .i64 0, .sl false 3 40 []], some (.agg [.int .i64 0, .int .i64 0, .YP]), .struct [(0, 1, false), (1, 1, false), (2, 1, false)]⟩ := by kernel_rfl
theorem r3C : Yk Tryz.prog 70 = ⟨2, 16, [.int .i64 0, .int .i64 0], [.int .i64 0, .int .i64 0], some (.agg [.int .i64 0, .int .i64 0]), .struct [(0, 1, false), (1, 1, false)]⟩ := by kernel_rfl
theorem r3D : Yk Tryz.prog 71 = ⟨2, 16, [.int .i64 0, .int .i64 0], [.int .i64 0, .int .i64 0], some (.agg [.int .i64 0, .int .i64 0]), .struct [(0, 1, false), (1, 1, false)]⟩ := by kernel_rfl
theorem r3E : Yk Tryz.prog 72 = ⟨1, 0, [.any], [.any], some (.any), .other⟩ := by kernel_rfl
theorem r3F : Yk Tryz.prog 75 = ⟨1, 0, [.any], [.any], some (.any), .other⟩ := by kernel_rfl
theorem r3G : Yk Tryz.prog 78 = ⟨1, 24, [.YP], [.sl false 2 16 []], some (.YP), .slice 71⟩ := by kernel_rfl
theorem r3H : Yk Tryz.prog 79 = ⟨1, 0, [.any], [.any], some (.any), .other⟩ := by kernel_rfl
theorem r3I : Yk Tryz.prog 85 = ⟨1, 24, [.YP], [.sl false 5 40 []], some (.YP), .slice 91⟩ := by kernel_rfl
theorem r3J : Yk Tryz.prog 86 = ⟨1, 0, [.any], [.any], some (.any), .other⟩ := by kernel_rfl
theorem r3K : Yk Tryz.prog 92 = ⟨1, 24, [.YP], [.sl false 6 48 []], some (.YP), .slice 101⟩ := by kernel_rfl
theorem r3L : Yk Tryz.prog 93 = ⟨1, 0, [.any], [.any], some (.any), .other⟩ := by kernel_rfl
theorem r3M : Yk Tryz.prog 98 = ⟨1, 0, [.any], [.any], some (.any), .other⟩ := by kernel_rfl
theorem r0S : Yk Tryz.prog 104 = ⟨1, 0, [.any], [.any], some (.any), .other⟩ := by kernel_rfl
theorem r0T : Yk Tryz.prog 110 = ⟨1, 24, [.YP], [.sl false 5 120 []], some (.YP), .slice 32⟩ := by kernel_rfl
theorem r0U : Yk Tryz.prog 115 = ⟨1, 24, [.YP], [.sl false 3 40 []], some (.YP), .slice 127⟩ := by kernel_rfl
theorem r0V : Yk Tryz.prog 117 = ⟨1, 24, [.YP], [.sl false 2 40 []], some (.YP), .slice 119⟩ := by kernel_rfl
theorem r0W : Yk Tryz.prog 118 = ⟨2, 40, [.str [], .YP], [.str [], .sl false 2 40 []], some (.agg [.str [], .YP]), .struct [(0, 1, false), (1, 1, false)]⟩ := by kernel_rfl
theorem r0X : Yk Tryz.prog 119 = ⟨2, 40, [.str [], .YP], [.str [], .sl false 2 40 []], some (.agg [.str [], .YP]), .struct [(0, 1, false), (1, 1, false)]⟩ := by kernel_rfl
theorem r0Y : Yk Tryz.prog 120 = ⟨1, 24, [.YP], [.sl false 6 96 []], some (.YP), .slice 122⟩ := by kernel_rfl
theorem r0Z : Yk Tryz.prog 121 = ⟨6, 96, [.int .i64 0, .str [], .int .i64 0, .str [], .YP, .YP], [.int .i64 0, .str [], .int .i64 0, .str [], .sl false 2 40 [], .sl false 6 96 []], some (.agg [.int .i64 0, .str [], .int .i64 0, .str [], .YP, .YP]), .struct [(0, 1, false), (1, 1, false), (2, 1, false), (3, 2, true), (5, 1, false)]⟩ := by kernel_rfl
theorem r1a : Yk Tryz.prog 122 = ⟨6, 96, [.int .i64 0, .str [], .int .i64 0, .str [], .YP, .YP], [.int .i64 0, .str [], .int .i64 0, .str [], .sl false 2 40 [], .sl false 6 96 []], some (.agg [.int .i64 0, .str [], .int .i64 0, .str [], .YP, .YP]), .struct [(0, 1, false), (1, 1, false), (2, 1, false), (3, 2, true), (5, 1, false)]⟩ := by kernel_rfl
theorem r1b : Yk Tryz.prog 123 = ⟨10, 152, [.str [], .YP, .int .i64 0, .int .i64 0, .int .i64 0, .str [], .int .i64 0, .str [], .YP, .YP], [.str [], .sl false 2 32 [], .int .i64 0, .int .i64 0, .int .i64 0, .str [], .int .i64 0, .str [], .sl false 2 40 [], .sl false 6 96 []], some (.agg [.str [], .YP, .int .i64 0, .int .i64 0, .int .i64 0, .str [], .int .i64 0, .str [], .YP, .YP]), .struct [(0, 1, false), (1, 1, true), (2, 1, false), (3, 1, false), (4, 6, true)]⟩ := by kernel_rfl
theorem r1c : Yk Tryz.prog 124 = ⟨10, 152, [.str [], .YP, .int .i64 0, .int .i64 0, .int .i64 0, .str [], .int .i64 0, .str [], .YP, .YP], [.str [], .sl false 2 32 [], .int .i64 0, .int .i64 0, .int .i64 0, .str [], .int .i64 0, .str [], .sl false 2 40 [], .sl false 6 96 []], some (.agg [.str [], .YP, .int .i64 0, .int .i64 0, .int .i64 0, .str [], .int .i64 0, .str [], .YP, .YP]), .struct [(0, 1, false), (1, 1, true), (2, 1, false), (3, 1, false), (4, 6, true)]⟩ := by kernel_rfl
theorem r1d : Yk Tryz.prog 129 = ⟨1, 24, [.YP], [.sl false 3 40 []], some (.YP), .slice 135⟩ := by kernel_rfl
theorem r1e : Yk Tryz.prog 131 = ⟨9, 144, [.str [], .YP, .int .i64 0, .int .i64 0, .str [], .int .i64 0, .str [], .YP, .YP], [.str [], .sl false 2 32 [], .int .i64 0, .int .i64 0, .str [], .int .i64 0, .str [], .sl false 2 40 [], .sl false 6 96 []], some (.agg [.str [], .YP, .int .i64 0, .int .i64 0, .str [], .int .i64 0, .str [], .YP, .YP]), .struct [(0, 1, false), (1, 1, true), (2, 1, false), (3, 6, true)]⟩ := by kernel_rfl
theorem r1f : Yk Tryz.prog 132 = ⟨9, 144, [.str [], .YP, .int .i64 0, .int .i64 0, .str [], .int .i64 0, .str [], .YP, .YP], [.str [], .sl false 2 32 [], .int .i64 0, .int .i64 0, .str [], .int .i64 0, .str [], .sl false 2 40 [], .sl false 6 96 []], some (.agg [.str [], .YP, .int .i64 0, .int .i64 0, .str [], .int .i64 0, .str [], .YP, .YP]), .struct [(0, 1, false), (1, 1, true), (2, 1, false), (3, 6, true)]⟩ := by kernel_rfl
theorem r1g : Yk Tryz.prog 137 = ⟨1, 0, [.any], [.any], some (.any), .other⟩ := by kernel_rfl
theorem r1h : Yk Tryz.prog 139 = ⟨1, 0, [.any], [.any], some (.any), .other⟩ := by kernel_rfl
theorem r1i : Yk Tryz.prog 143 = ⟨1, 24, [.YP], [.sl false 1 24 []], some (.YP), .slice 144⟩ := by kernel_rfl
theorem r1j : Yk Tryz.prog 144 = ⟨1, 24, [.YP], [.sl false 1 1 []], some (.YP), .slice 4⟩ := by kernel_rfl
theorem r1k : Yk Tryz.prog 153 = ⟨1, 8, [.d8Z], [.d8Z], some (.d8Z), .other⟩ := by kernel_rfl
theorem r1l : Yk Tryz.prog 155 = ⟨1, 8, [.i4m], [.i4m], some (.i4m), .ptr 3⟩ := by kernel_rfl
theorem r1m : Yk Tryz.prog 156 = ⟨1, 0, [.any], [.any], some (.any), .other⟩ := by kernel_rfl
theorem r1n : Yk Tryz.prog 161 = ⟨1, 24, [.YP], [.sl false 2 16 []], some (.YP), .slice 212⟩ := by kernel_rfl
theorem r1o : Yk Tryz.prog 162 = ⟨2, 32, [.int .i64 0, .YP], [.int .i64 0, .sl false 2 16 []], some (.agg [.int .i64 0, .YP]), .struct [(0, 1, false), (1, 1, false)]⟩ := by kernel_rfl
theorem r1p : Yk Tryz.prog 163 = ⟨2, 32, [.int .i64 0, .YP], [.int .i64 0, .sl false 2 16 []], some (.agg [.int .i64 0, .YP]), .struct [(0, 1, false), (1, 1, false)]⟩ := by kernel_rfl
theorem r1q : Yk Tryz.prog 169 = ⟨1, 24, [.YP], [.sl false 1 24 []], some (.YP), .slice 85⟩ := by kernel_rfl
theorem r1r : Yk Tryz.prog 171 = ⟨1, 24, [.YP], [.sl false 1 16 []], some (.YP), .slice 9⟩ := by kernel_rfl
theorem r1s : Yk Tryz.prog 182 = ⟨3, 32, [.str [], .int .i64 0, .int .i64 0], [.str [], .int .i64 0, .int .i64 0], some (.agg [.str [], .int .i64 0, .int .i64 0]), .struct [(0, 1, false), (1, 1, false), (2, 1, false)]⟩ := by kernel_rfl
theorem r1t : Yk Tryz.prog 183 = ⟨3, 32, [.str [], .int .i64 0, .int .i64 0], [.str [], .int .i64 0, .int .i64 0], some (.agg [.str [], .int .i64 0, .int .i64 0]), .struct [(0, 1, false), (1, 1, false), (2, 1, false)]⟩ := by kernel_rfl
theorem r1u : Yk Tryz.prog 186 = ⟨1, 24, [.YP], [.sl false 1 24 []], some (.YP), .slice 60⟩ := by kernel_rfl
theorem r1v : Yk Tryz.prog 187 = ⟨1, 8, [.d8Z], [.d8Z], some (.d8Z), .other⟩ := by kernel_rfl
theorem r1w : Yk Tryz.prog 193 = ⟨1, 24, [.YP], [.sl false 1 8 []], some (.YP), .slice 230⟩ := by kernel_rfl
theorem r1x : Yk Tryz.prog 194 = ⟨2, 48, [.YP, .YP], [.sl false 1 8 [], .sl false 1 8 []], some (.agg [.YP, .YP]), .struct [(0, 1, false), (1, 1, false)]⟩ := by kernel_rfl
theorem r1y : Yk Tryz.prog 195 = ⟨2, 48, [.YP, .YP], [.sl false 1 8 [], .sl false 1 8 []], some (.agg [.YP, .YP]), .struct [(0, 1, false), (1, 1, false)]⟩ := by kernel_rfl
theorem r1z : Yk Tryz.prog 197 = ⟨1, 8, [.i8f], [.i8f], some (.i8f), .map 9 3⟩ := by kernel_rfl
theorem r1A : Yk Tryz.prog 198 = ⟨1, 0, [.any], [.any], some (.any), .other⟩ := by kernel_rfl
theorem r1B : Yk Tryz.prog 203 = ⟨2, 40, [.str [], .YP], [.str [], .sl false 1 8 []], some (.agg [.str [], .YP]), .struct [(0, 1, false), (1, 1, false)]⟩ := by kernel_rfl
theorem r1C : Yk Tryz.prog 204 = ⟨2, 40, [.str [], .YP], [.str [], .sl false 1 8 []], some (.agg [.str [], .YP]), .struct [(0, 1, false), (1, 1, false)]⟩ := by kernel_rfl
theorem r1D : Yk Tryz.prog 211 = ⟨2, 16, [.int .i64 0, .int .i64 0], [.int .i64 0, .int .i64 0], some (.agg [.int .i64 0, .int .i64 0]), .struct [(0, 1, false), (1, 1, false)]⟩ := by kernel_rfl
theorem r1E : Yk Tryz.prog 212 = ⟨2, 16, [.int .i64 0, .int .i64 0], [.int .i64 0, .int .i64 0], some (.agg [.int .i64 0, .int .i64 0]), .struct [(0, 1, false), (1, 1, false)]⟩ := by kernel_rfl
theorem r1F : Yk Tryz.prog 221 = ⟨1, 24, [.YP], [.sl false 1 1 []], some (.YP), .slice 5⟩ := by kernel_rfl
theorem r1G : Yk Tryz.prog 225 = ⟨1, 8, [.d8Z], [.d8Z], some (.d8Z), .other⟩ := by kernel_rfl
theorem r1H : Yk Tryz.prog 226 = ⟨1, 8, [.d8Z], [.d8Z], some (.d8Z), .other⟩ := by kernel_rfl
theorem r1I : Yk Tryz.prog 227 = ⟨1, 8, [.d8Z], [.d8Z], some (.d8Z), .other⟩ := by kernel_rfl
theorem r1J : Yk Tryz.prog 230 = ⟨1, 8, [.int .u64 0], [.int .u64 0], some (.int .u64 0), .int .u64⟩ := by kernel_rfl
theorem r1K : Yk Tryz.prog 236 = ⟨1, 0, [.any], [.any], some (.any), .other⟩ := by kernel_rfl
theorem r1L : Yk Tryz.prog 239 = ⟨1, 0, [.any], [.any], some (.any), .other⟩ := by kernel_rfl
theorem r1M : Yk Tryz.prog 252 = ⟨1, 0, [.any], [.any], some (.any), .other⟩ := by kernel_rfl
theorem r1N : Yk Tryz.prog 263 = ⟨1, 8, [.d8Z], [.d8Z], some (.d8Z), .other⟩ := by kernel_rfl
theorem r1O : Yk Tryz.prog 267 = ⟨1, 8, [.int .u64 0], [.int .u64 0], some (.int .u64 0), .int .u64⟩ := by kernel_rfl
theorem r1P : Yk Tryz.prog 279 = ⟨1, 8, [.d8Z], [.d8Z], some (.d8Z), .other⟩ := by kernel_rfl
theorem r1Q : Yk Tryz.prog 280 = ⟨1, 8, [.d8Z], [.d8Z], some (.d8Z), .other⟩ := by kernel_rfl
theorem r1R : Yk Tryz.prog 283 = ⟨1, 0, [.any], [.any], some (.any), .other⟩ := by kernel_rfl
theorem r1S : Yk Tryz.prog 287 = ⟨8, 112, [.int .i64 0, .str [], .int .i64 0, .str [], .YP, .YP, .int .i64 0, .int .i64 0], [.int .i64 0, .str [], .int .i64 0, .str [], .sl false 2 40 [], .sl false 6 96 [], .int .i64 0, .int .i64 0], some (.agg [.int .i64 0, .str [], .int .i64 0, .str [], .YP, .YP, .int .i64 0, .int .i64 0]), .struct [(0, 6, true), (6, 1, false), (7, 1, false)]⟩ := by kernel_rfl
theorem r1T : Yk Tryz.prog 288 = ⟨8, 112, [.int .i64 0, .str [], .int .i64 0, .str [], .YP, .YP, .int .i64 0, .int .i64 0], [.int .i64 0, .str [], .int .i64 0, .str [], .sl false 2 40 [], .sl false 6 96 [], .int .i64 0, .int .i64 0], some (.agg [.int .i64 0, .str [], .int .i64 0, .str [], .YP, .YP, .int .i64 0, .int .i64 0]), .struct [(0, 6, true), (6, 1, false), (7, 1, false)]⟩ := by kernel_rfl
theorem r1U : Yk Tryz.prog 289 = ⟨1, 24, [.YP], [.sl false 8 112 []], some (.YP), .slice 288⟩ := by kernel_rfl
theorem r1V : Yk Tryz.prog 301 = ⟨1, 4, [.int .u32 0], [.int .u32 0], some (.int .u32 0), .int .u32⟩ := by kernel_rfl
theorem r1W : Yk Tryz.prog 302 = ⟨64, 64, [.int .u8 0, .int .u8 0, .int .u8 0, .int .u8 0, .int .u8 0, .int .u8 0, .int .u8 0, .int .u8 0, .int .u8 0, .int .u8 0, .int .u8 0, .int .u8 0, .int .u8 0, .int .u8 0, .int .u8 0, .int .u8 0, .int .u8 0, .int .u8 0, .int .u8 0, .int .u8 0, .int .u8 0, .int .u8 0, .int .u8 0, .int .u8 0, .int .u8 0, .int .u8 0, .int .u8 0, .int .u8 0, .int .u8 0, .int .u8 0, .int .u8 0, .int .u8 0, .int .u8 0, .int .u8 0, .int .u8 0, .int .u8 0, .int .u8 0, .int .u8 0, .int .u8 0, .int .u8 0, .int .u8 0, .int .u8 0, .int .u8 0, .int .u8 0, .int .u8 0, .int .u8 0, .int .u8 0, .int .u8 0, .int .u8 0, .int .u8 0, .int .u8 0, .int .u8 0, .int .u8 0, .int .u8 0, .int .u8 0, .int .u8 0, .int .u8 0, .int .u8 0, .int .u8 0, .int .u8 0, .int .u8 0, .int .u8 0, .int .u8 0, .int .u8 0], [.int .u8 0, .int .u8 0, .int .u8 0, .int .u8 0, .int .u8 0, .int .u8 0, .int .u8 0, .int .u8 0, .int .u8 0, .int .u8 0, .int .u8 0, .int .u8 0, .int .u8 0, .int .u8 0, .int .u8 0, .int .u8 0, .int .u8 0, .int .u8 0, .int .u8 0, .int .u8 0, .int .u8 0, .int .u8 0, .int .u8 0, .int .u8 0, .int .u8 0, .int .u8 0, .int .u8 0, .int .u8 0, .int .u8 0, .int .u8 0, .int .u8 0, .int .u8 0, .int .u8 0, .int .u8 0, .int .u8 0, .int .u8 0, .int .u8 0, .int .u8 0, .int .u8 0, .int .u8 0, .int .u8 0, .int .u8 0, .int .u8 0, .int .u8 0, .int .u8 0, .int .u8 0, .int .u8 0, .int .u8 0, .int .u8 0, .int .u8 0, .int .u8 0, .int .u8 0, .int .u8 0, .int .u8 0, .int .u8 0, .int .u8 0, .int .u8 0, .int .u8 0, .int .u8 0, .int .u8 0, .int .u8 0, .int .u8 0, .int .u8 0, .int .u8 0], some (.agg [.int .u8 0, .int .u8 0, .int .u8 0, .int .u8 0, .int .u8 0, .int .u8 0, .int .u8 0, .int .u8 0, .int .u8 0, .int .u8 0, .int .u8 0, .int .u8 0, .int .u8 0, .int .u8 0, .int .u8 0, .int .u8 0, .int .u8 0, .int .u8 0, .int .u8 0, .int .u8 0, .int .u8 0, .int .u8 0, .int .u8 0, .int .u8 0, .int .u8 0, .int .u8 0, .int .u8 0, .int .u8 0, .int .u8 0, .int .u8 0, .int .u8 0, .int .u8 0, .int .u8 0, .int .u8 0, .int .u8 0, .int .u8 0, .int .u8 0, .int .u8 0, .int .u8 0, .int .u8 0, .int .u8 0, .int .u8 0, .int .u8 0, .int .u8 0, .int .u8 0, .int .u8 0, .int .u8 0, .int .u8 0, .int .u8 0, .int .u8 0, .int .u8 0, .int .u8 0, .int .u8 0, .int .u8 0, .int .u8 0, .int .u8 0, .int .u8 0, .int .u8 0, .int .u8 0, .int .u8 0, .int .u8 0, .int .u8 0, .int .u8 0, .int .u8 0]), .arr 64 5⟩ := by kernel_rfl
theorem r1X : Yk Tryz.prog 303 = ⟨1, 8, [.d8Z], [.d8Z], some (.d8Z), .other⟩ := by kernel_rfl
theorem r1Y : Yk Tryz.prog 305 = ⟨256, 256, (List.replicate 256 (.int .u8 0)), [], some (.agg (List.replicate 256 (.int .u8 0))), .arr 256 5⟩ := by kernel_rfl
theorem r1Z : Yk Tryz.prog 306 = ⟨2, 2, [.int .u8 0, .int .u8 0], [.int .u8 0, .int .u8 0], some (.agg [.int .u8 0, .int .u8 0]), .struct [(0, 1, false), (1, 1, false)]⟩ := by kernel_rfl
theorem r2a : Yk Tryz.prog 307 = ⟨2, 2, [.int .u8 0, .int .u8 0], [.int .u8 0, .int .u8 0], some (.agg [.int .u8 0, .int .u8 0]), .struct [(0, 1, false), (1, 1, false)]⟩ := by kernel_rfl
theorem r2b : Yk Tryz.prog 308 = ⟨32, 32, [.int .u8 0, .int .u8 0, .int .u8 0, .int .u8 0, .int .u8 0, .int .u8 0, .int .u8 0, .int .u8 0, .int .u8 0, .int .u8 0, .int .u8 0, .int .u8 0, .int .u8 0, .int .u8 0, .int .u8 0, .int .u8 0, .int .u8 0, .int .u8 0, .int .u8 0, .int .u8 0, .int .u8 0, .int .u8 0, .int .u8 0, .int .u8 0, .int .u8 0, .int .u8 0, .int .u8 0, .int .u8 0, .int .u8 0, .int .u8 0, .int .u8 0, .int .u8 0], [.int .u8 0, .int .u8 0, .int .u8 0, .int .u8 0, .int .u8 0, .int .u8 0, .int .u8 0, .int .u8 0, .int .u8 0, .int .u8 0, .int .u8 0, .int .u8 0, .int .u8 0, .int .u8 0, .int .u8 0, .int .u8 0, .int .u8 0, .int .u8 0, .int .u8 0, .int .u8 0, .int .u8 0, .int .u8 0, .int .u8 0, .int .u8 0, .int .u8 0, .int .u8 0, .int .u8 0, .int .u8 0, .int .u8 0, .int .u8 0, .int .u8 0, .int .u8 0], some (.agg [.int .u8 0, .int .u8 0, .int .u8 0, .int .u8 0, .int .u8 0, .int .u8 0, .int .u8 0, .int .u8 0, .int .u8 0, .int .u8 0, .int .u8 0, .int .u8 0, .int .u8 0, .int .u8 0, .int .u8 0, .int .u8 0, .int .u8 0, .int .u8 0, .int .u8 0, .int .u8 0, .int .u8 0, .int .u8 0, .int .u8 0, .int .u8 0, .int .u8 0, .int .u8 0, .int .u8 0, .int .u8 0, .int .u8 0, .int .u8 0, .int .u8 0, .int .u8 0]), .arr 16 307⟩ := by kernel_rfl
theorem r2c : Yk Tryz.prog 310 = ⟨3, 48, [.str [], .YP, .int .i64 0], [.str [], .sl false 2 40 [], .int .i64 0], some (.agg [.str [], .YP, .int .i64 0]), .struct [(0, 2, true), (2, 1, false)]⟩ := by kernel_rfl
theorem r2d : Yk Tryz.prog 311 = ⟨3, 48, [.str [], .YP, .int .i64 0], [.str [], .sl false 2 40 [], .int .i64 0], some (.agg [.str [], .YP, .int .i64 0]), .struct [(0, 2, true), (2, 1, false)]⟩ := by kernel_rfl
theorem r2e : Yk Tryz.prog 312 = ⟨1, 24, [.YP], [.sl false 3 48 []], some (.YP), .slice 311⟩ := by kernel_rfl
theorem r2f : Yk Tryz.prog 313 = ⟨1, 24, [.YP], [.sl false 7 104 []], some (.YP), .slice 316⟩ := by kernel_rfl
theorem r2g : Yk Tryz.prog 315 = ⟨7, 104, [.int .i64 0, .str [], .str [], .YP, .int .i64 0, .YP, .int .i64 0], [.int .i64 0, .str [], .str [], .sl false 2 40 [], .int .i64 0, .sl false 1 8 [], .int .i64 0], some (.agg [.int .i64 0, .str [], .str [], .YP, .int .i64 0, .YP, .int .i64 0]), .struct [(0, 1, false), (1, 1, false), (2, 2, true), (4, 1, false), (5, 1, false), (6, 1, false)]⟩ := by kernel_rfl
theorem r2h : Yk Tryz.prog 316 = ⟨7, 104, [.int .i64 0, .str [], .str [], .YP, .int .i64 0, .YP, .int .i64 0], [.int .i64 0, .str [], .str [], .sl false 2 40 [], .int .i64 0, .sl false 1 8 [], .int .i64 0], some (.agg [.int .i64 0, .str [], .str [], .YP, .int .i64 0, .YP, .int .i64 0]), .struct [(0, 1, false), (1, 1, false), (2, 2, true), (4, 1, false), (5, 1, false), (6, 1, false)]⟩ := by kernel_rfl
theorem r2i : Yk Tryz.prog 324 = ⟨256, 256, (List.replicate 256 (.bool false)), [], some (.agg (List.replicate 256 (.bool false))), .arr 256 4⟩ := by kernel_rfl
theorem r2j : Yk Tryz.prog 325 = ⟨256, 256, (List.replicate 256 (.bool false)), [], some (.agg (List.replicate 256 (.bool false))), .arr 256 4⟩ := by kernel_rfl
theorem r2k : Yk Tryz.prog 326 = ⟨1, 0, [.any], [.any], some (.any), .other⟩ := by kernel_rfl
theorem r2l : Yk Tryz.prog 336 = ⟨1, 8, [.i4m], [.i4m], some (.i4m), .ptr 325⟩ := by kernel_rfl
theorem r2m : Yk Tryz.prog 348 = ⟨1, 8, [.i4m], [.i4m], some (.i4m), .ptr 5⟩ := by kernel_rfl
theorem fk7 : YT Tryz.prog 7 = some [1, 1, 3, 1] := by kernel_rfl
theorem r3N : YT Tryz.prog 24 = some [0, 0] := by kernel_rfl
theorem r3O : YT Tryz.prog 25 = some [0, 0] := by kernel_rfl
theorem r3P : YT Tryz.prog 29 = some [0] := by kernel_rfl
theorem r3Q : YT Tryz.prog 30 = some [0] := by kernel_rfl
theorem r3R : YT Tryz.prog 38 = some [0, 0, 0, 0] := by kernel_rfl
theorem r3S : YT Tryz.prog 39 = some [0, 0, 0, 0] := by kernel_rfl
theorem r3T : YT Tryz.prog 40 = some [1, 1] := by kernel_rfl
theorem r3U : YT Tryz.prog 41 = some [1, 1] := by kernel_rfl
theorem r3V : YT Tryz.prog 53 = some [1, 1, 0] := by kernel_rfl
theorem r3W : YT Tryz.prog 54 = some [1, 1, 0] := by kernel_rfl
theorem r3X : YT Tryz.prog 55 = some [1, 1, 0] := by kernel_rfl
theorem r3Y : YT Tryz.prog 56 = some [1, 1, 0] := by kernel_rfl
theorem r3Z : YT Tryz.prog 61 = some [0, 0] := by kernel_rfl
theorem r4a : YT Tryz.prog 62 = some [0, 0] := by kernel_rfl
theorem r4b : YT Tryz.prog 66 = some [1, 1, 0] := by kernel_rfl
theorem r4c : YT Tryz.prog 67 = some [1, 1, 0] := by kernel_rfl
theorem r4d : YT Tryz.prog 70 = some [1, 1] := by kernel_rfl
theorem r4e : YT Tryz.prog 71 = some [1, 1] := by kernel_rfl
theorem r2n : YT Tryz.prog 118 = some [2, 0] := by kernel_rfl
theorem r2o : YT Tryz.prog 119 = some [2, 0] := by kernel_rfl
theorem r2p : YT Tryz.prog 123 = some [2, 0, 1, 1, 0] := by kernel_rfl
theorem r2q : YT Tryz.prog 124 = some [2, 0, 1, 1, 0] := by kernel_rfl
theorem r2r : YT Tryz.prog 131 = some [2, 0, 1, 0] := by kernel_rfl
theorem r2s : YT Tryz.prog 132 = some [2, 0, 1, 0] := by kernel_rfl
theorem r2t : YT Tryz.prog 162 = some [1, 0] := by kernel_rfl
theorem r2u : YT Tryz.prog 163 = some [1, 0] := by kernel_rfl
theorem r2v : YT Tryz.prog 182 = some [2, 1, 1] := by kernel_rfl
theorem r2w : YT Tryz.prog 183 = some [2, 1, 1] := by kernel_rfl
theorem r2x : YT Tryz.prog 194 = some [0, 0] := by kernel_rfl
theorem r2y : YT Tryz.prog 195 = some [0, 0] := by kernel_rfl
theorem r2z : YT Tryz.prog 203 = some [2, 0] := by kernel_rfl
theorem r2A : YT Tryz.prog 204 = some [2, 0] := by kernel_rfl
theorem r2B : YT Tryz.prog 211 = some [1, 1] := by kernel_rfl
theorem r2C : YT Tryz.prog 212 = some [1, 1] := by kernel_rfl
theorem r2D : YT Tryz.prog 306 = some [1, 1] := by kernel_rfl
theorem r2E : YT Tryz.prog 307 = some [1, 1] := by kernel_rfl
attribute [go_sem] ty0 ty2 ty3 ty4 ty5 ty7 ty9 r2R r2S r2T r2U r2V r2W r2X r2Y r2Z r3a r3b r3c r3d r3e r3f r3g r3h r3i r3j r3k r3l r3m r3n r3o r3p r3q r3r r3s r3t r3u r3v r3w r3x r3y r3z r3A r3B r3C r3D r3E r3F r3G r3H r3I r3J r3K r3L r3M r0S r0T r0U r0V r0W r0X r0Y r0Z r1a r1b r1c r1d r1e r1f r1g r1h r1i r1j r1k r1l r1m r1n r1o r1p r1q r1r r1s r1t r1u r1v r1w r1x r1y r1z r1A r1B r1C r1D r1E r1F r1G r1H r1I r1J r1K r1L r1M r1N r1O r1P r1Q r1R r1S r1T r1U r1V r1W r1X r1Y r1Z r2a r2b r2c r2d r2e r2f r2g r2h r2i r2j r2k r2l r2m fk7 r3N r3O r3P r3Q r3R r3S r3T r3U r3V r3W r3X r3Y r3Z r4a r4b r4c r4d r4e r2n r2o r2p r2q r2r r2s r2t r2u r2v r2w r2x r2y r2z r2A r2B r2C r2D r2E 
end Go.Proofs.YtgaeiccgdpnkkaaGreatDoor

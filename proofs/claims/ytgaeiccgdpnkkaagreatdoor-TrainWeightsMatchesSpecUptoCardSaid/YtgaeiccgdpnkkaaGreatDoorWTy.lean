import Derived.Test.YtgaeiccgdpnkkaaGreatDoorProg
import Derived.Test.YtgaeiccgdpnkkaaGreatDoorWAm3
set_option linter.unusedVariables false
set_option linter.unusedSimpArgs false
namespace Go.Proofs.YtgaeiccgdpnkkaaGreatDoor
open Go Go.Am
theorem ty0 : WS Tryz.prog 0 = ⟨1, 0, [.any], [.any], some (.any), .other⟩ := by kernel_rfl
theorem ty2 : WS Tryz.prog 2 = ⟨1, 8, [.int .i64 0], [.int .i64 0], some (.int .i64 0), .int .i64⟩ := by kernel_rfl
theorem ty3 : WS Tryz.prog 3 = ⟨1, 8, [.int .i64 0], [.int .i64 0], some (.int .i64 0), .int .i64⟩ := by kernel_rfl
theorem ty4 : WS Tryz.prog 4 = ⟨1, 1, [.bool false], [.bool false], some (.bool false), .bool⟩ := by kernel_rfl
theorem ty5 : WS Tryz.prog 5 = ⟨1, 1, [.int .u8 0], [.int .u8 0], some (.int .u8 0), .int .u8⟩ := by kernel_rfl
theorem ty7 : WS Tryz.prog 7 = ⟨4, 24, [.int .i64 0, .int .i64 0, .bool false, .int .u8 0], [.int .i64 0, .int .i64 0, .bool false, .int .u8 0], some (.agg [.int .i64 0, .int .i64 0, .bool false, .int .u8 0]), .struct [(0, 1, false), (1, 1, false), (2, 1, false), (3, 1, false)]⟩ := by kernel_rfl
theorem ty9 : WS Tryz.prog 9 = ⟨1, 16, [.str []], [.str []], some (.str []), .str⟩ := by kernel_rfl
theorem r2P : WS Tryz.prog 12 = ⟨1, 8, [.int .u64 0], [.int .u64 0], some (.int .u64 0), .int .u64⟩ := by kernel_rfl
theorem r2Q : WS Tryz.prog 13 = ⟨2, 24, [.str [], .int .u64 0], [.str [], .int .u64 0], some (.agg [.str [], .int .u64 0]), .struct [(0, 1, false), (1, 1, false)]⟩ := by kernel_rfl
theorem r2R : WS Tryz.prog 18 = ⟨1, 8, [.i3O], [.i3O], some (.agg [.i3O]), .struct [(0, 1, false)]⟩ := by kernel_rfl
theorem r2S : WS Tryz.prog 21 = ⟨1, 4, [.int .i32 0], [.int .i32 0], some (.int .i32 0), .int .i32⟩ := by kernel_rfl
theorem r2T : WS Tryz.prog 22 = ⟨1, 24, [.XC], [.sl false 2 40 []], some (.XC), .slice 204⟩ := by kernel_rfl
theorem r2U : WS Tryz.prog 23 = ⟨1, 24, [.XC], [.sl false 3 32 []], some (.XC), .slice 183⟩ := by kernel_rfl
theorem r2V : WS Tryz.prog 24 = ⟨2, 48, [.XC, .XC], [.sl false 2 40 [], .sl false 3 32 []], some (.agg [.XC, .XC]), .struct [(0, 1, false), (1, 1, false)]⟩ := by kernel_rfl
theorem r2W : WS Tryz.prog 25 = ⟨2, 48, [.XC, .XC], [.sl false 2 40 [], .sl false 3 32 []], some (.agg [.XC, .XC]), .struct [(0, 1, false), (1, 1, false)]⟩ := by kernel_rfl
theorem r2X : WS Tryz.prog 26 = ⟨1, 24, [.XC], [.sl false 10 152 []], some (.XC), .slice 124⟩ := by kernel_rfl
theorem r2Y : WS Tryz.prog 27 = ⟨1, 24, [.XC], [.sl false 9 144 []], some (.XC), .slice 132⟩ := by kernel_rfl
theorem r2Z : WS Tryz.prog 28 = ⟨1, 24, [.XC], [.sl false 2 32 []], some (.XC), .slice 163⟩ := by kernel_rfl
theorem r3a : WS Tryz.prog 29 = ⟨1, 24, [.XC], [.sl false 2 32 []], some (.agg [.XC]), .struct [(0, 1, false)]⟩ := by kernel_rfl
theorem r3b : WS Tryz.prog 30 = ⟨1, 24, [.XC], [.sl false 2 32 []], some (.agg [.XC]), .struct [(0, 1, false)]⟩ := by kernel_rfl
theorem r3c : WS Tryz.prog 31 = ⟨5, 120, [.XC, .XC, .XC, .XC, .XC], [.sl false 2 40 [], .sl false 3 32 [], .sl false 10 152 [], .sl false 9 144 [], .sl false 2 32 []], some (.agg [.XC, .XC, .XC, .XC, .XC]), .struct [(0, 2, true), (2, 1, false), (3, 1, false), (4, 1, true)]⟩ := by kernel_rfl
theorem r3d : WS Tryz.prog 32 = ⟨5, 120, [.XC, .XC, .XC, .XC, .XC], [.sl false 2 40 [], .sl false 3 32 [], .sl false 10 152 [], .sl false 9 144 [], .sl false 2 32 []], some (.agg [.XC, .XC, .XC, .XC, .XC]), .struct [(0, 2, true), (2, 1, false), (3, 1, false), (4, 1, true)]⟩ := by kernel_rfl
theorem r3e : WS Tryz.prog 34 = ⟨1, 24, [.XC], [.sl false 2 48 []], some (.XC), .slice 25⟩ := by kernel_rfl
theorem r3f : WS Tryz.prog 35 = ⟨1, 24, [.XC], [.sl false 1 24 []], some (.XC), .slice 30⟩ := by kernel_rfl
theorem r3g : WS Tryz.prog 36 = ⟨1, 24, [.XC], [.sl false 3 40 []], some (.XC), .slice 54⟩ := by kernel_rfl
theorem r3h : WS Tryz.prog 37 = ⟨1, 24, [.XC], [.sl false 3 40 []], some (.XC), .slice 56⟩ := by kernel_rfl
theorem r3i : WS Tryz.prog 38 = ⟨4, 96, [.XC, .XC, .XC, .XC], [.sl false 2 48 [], .sl false 1 24 [], .sl false 3 40 [], .sl false 3 40 []], some (.agg [.XC, .XC, .XC, .XC]), .struct [(0, 1, false), (1, 1, false), (2, 1, false), (3, 1, false)]⟩ := by kernel_rfl
theorem r3j : WS Tryz.prog 39 = ⟨4, 96, [.XC, .XC, .XC, .XC], [.sl false 2 48 [], .sl false 1 24 [], .sl false 3 40 [], .sl false 3 40 []], some (.agg [.XC, .XC, .XC, .XC]), .struct [(0, 1, false), (1, 1, false), (2, 1, false), (3, 1, false)]⟩ := by kernel_rfl
theorem r3k : WS Tryz.prog 40 = ⟨2, 16, [.int .i64 0, .int .i64 0], [.int .i64 0, .int .i64 0], some (.agg [.int .i64 0, .int .i64 0]), .struct [(0, 1, false), (1, 1, false)]⟩ := by kernel_rfl
theorem r3l : WS Tryz.prog 41 = ⟨2, 16, [.int .i64 0, .int .i64 0], [.int .i64 0, .int .i64 0], some (.agg [.int .i64 0, .int .i64 0]), .struct [(0, 1, false), (1, 1, false)]⟩ := by kernel_rfl
theorem r3m : WS Tryz.prog 42 = ⟨1, 0, [.any], [.any], some (.any), .other⟩ := by kernel_rfl
theorem r3n : WS Tryz.prog 46 = ⟨1, 0, [.any], [.any], some (.any), .other⟩ := by kernel_rfl
theorem r3o : WS Tryz.prog 48 = ⟨1, 0, [.any], [.any], some (.any), .other⟩ := by kernel_rfl
theorem r3p : WS Tryz.prog 53 = ⟨3, 40, [.int .i64 0, .int .i64 0, .XC], [.int .i64 0, .int .i64 0, .sl false 10 152 []], some (.agg [.int .i64 0, .int .i64 0, .XC]), .struct [(0, 1, false), (1, 1, false), (2, 1, false)]⟩ := by kernel_rfl
theorem r3q : WS Tryz.prog 54 = ⟨3, 40, [.int .i64 0, .int .i64 0, .XC], [.int .i64 0, .int .i64 0, .sl false 10 152 []], some (.agg [.int .i64 0, .int .i64 0, .XC]), .struct [(0, 1, false), (1, 1, false), (2, 1, false)]⟩ := by kernel_rfl
theorem r3r : WS Tryz.prog 55 = ⟨3, 40, [.int .i64 0, .int .i64 0, .XC], [.int .i64 0, .int .i64 0, .sl false 9 144 []], some (.agg [.int .i64 0, .int .i64 0, .XC]), .struct [(0, 1, false), (1, 1, false), (2, 1, false)]⟩ := by kernel_rfl
theorem r3s : WS Tryz.prog 56 = ⟨3, 40, [.int .i64 0, .int .i64 0, .XC], [.int .i64 0, .int .i64 0, .sl false 9 144 []], some (.agg [.int .i64 0, .int .i64 0, .XC]), .struct [(0, 1, false), (1, 1, false), (2, 1, false)]⟩ := by kernel_rfl
theorem r3t : WS Tryz.prog 59 = ⟨1, 24, [.XC], [.sl false 3 40 []], some (.XC), .slice 67⟩ := by kernel_rfl
theorem r3u : WS Tryz.prog 60 = ⟨1, 24, [.XC], [.sl false 1 8 []], some (.XC), .slice 3⟩ := by kernel_rfl
theorem r3v : WS Tryz.prog 61 = ⟨2, 48, [.XC, .XC], [.sl false 1 8 [], .sl false 1 8 []], some (.agg [.XC, .XC]), .struct [(0, 1, false), (1, 1, false)]⟩ := by kernel_rfl
theorem r3w : WS Tryz.prog 62 = ⟨2, 48, [.XC, .XC], [.sl false 1 8 [], .sl false 1 8 []], some (.agg [.XC, .XC]), .struct [(0, 1, false), (1, 1, false)]⟩ := by kernel_rfl
theorem r3x : WS Tryz.prog 63 = ⟨1, 0, [.any], [.any], some (.any), .other⟩ := by kernel_rfl
theorem r3y : WS Tryz.prog 66 = ⟨3, 40, [.int .i64 0, .int .i64 0, .XC], [.int .i64 0, .int .i64 0, .sl false 3 40 []], some (.agg [.int .i64 0, .int .i64 0, .XC]), .struct [(0, 1, false), (1, 1, false), (2, 1, false)]⟩ := by kernel_rfl
theorem r3z : WS Tryz.prog 67 = ⟨3, 40, [.int .i64 0, .int .i64 0, .XC], [.int .i64 0, .int .i64 0, .sl false 3 40 []], some (.agg [.int .i64 0, .int .i64 0, .XC]), .struct [(0, 1, false), (1, 1, false), (2, 1, false)]⟩ := by kernel_rfl
theorem r3A : WS Tryz.prog 70 = ⟨2, 16, [.int .i64 0, .int .i64 0], [.int .i64 0, .int .i64 0], some (.agg [.int .i64 0, .int .i64 0]), .struct [(0, 1, false), (1, 1, false)]⟩ := by kernel_rfl
theorem r3B : WS Tryz.prog 71 = ⟨2, 16, [.int .i64 0, .int .i64 0], [.int .i64 0, .int .i64 0], some (.agg [.int .i64 0, .int .i64 0]), .struct [(0, 1, false), (1, 1, false)]⟩ := by kernel_rfl
theorem r3C : WS Tryz.prog 72 = ⟨1, 0, [.any], [.any], some (.any), .other⟩ := by kernel_rfl
theorem r3D : WS Tryz.prog 75 = ⟨1, 0, [.any], [.any], some (.any), .other⟩ := by kernel_rfl
theorem r3E : WS Tryz.prog 78 = ⟨1, 24, [.XC], [.sl false 2 16 []], some (.XC), .slice 71⟩ := by kernel_rfl
theorem r3F : WS Tryz.prog 79 = ⟨1, 0, [.any], [.any], some (.any), .other⟩ := by kernel_rfl
theorem r3G : WS Tryz.prog 85 = ⟨1, 24, [.XC], [.sl false 5 40 []], some (.XC), .slice 91⟩ := by kernel_rfl
theorem r3H : WS Tryz.prog 86 = ⟨1, 0, [.any], [.any], some (.any), .other⟩ := by kernel_rfl
theorem r3I : WS Tryz.prog 92 = ⟨1, 24, [.XC], [.sl false 6 48 []], some (.XC), .slice 101⟩ := by kernel_rfl
theorem r3J : WS Tryz.prog 93 = ⟨1, 0, [.any], [.any], some (.any), .other⟩ := by kernel_rfl
theorem r3K : WS Tryz.prog 98 = ⟨1, 0, [.any], [.any], some (.any), .other⟩ := by kernel_rfl
theorem r0J : WS Tryz.prog 104 = ⟨1, 0, [.any], [.any], some (.any), .other⟩ := by kernel_rfl
theorem r0K : WS Tryz.prog 110 = ⟨1, 24, [.XC], [.sl false 5 120 []], some (.XC), .slice 32⟩ := by kernel_rfl
theorem r0L : WS Tryz.prog 115 = ⟨1, 24, [.XC], [.sl false 3 40 []], some (.XC), .slice 127⟩ := by kernel_rfl
theorem r0M : WS Tryz.prog 117 = ⟨1, 24, [.XC], [.sl false 2 40 []], some (.XC), .slice 119⟩ := by kernel_rfl
theorem r0N : WS Tryz.prog 118 = ⟨2, 40, [.str [], .XC], [.str [], .sl false 2 40 []], some (.agg [.str [], .XC]), .struct [(0, 1, false), (1, 1, false)]⟩ := by kernel_rfl
theorem r0O : WS Tryz.prog 119 = ⟨2, 40, [.str [], .XC], [.str [], .sl false 2 40 []], some (.agg [.str [], .XC]), .struct [(0, 1, false), (1, 1, false)]⟩ := by kernel_rfl
theorem r0P : WS Tryz.prog 120 = ⟨1, 24, [.XC], [.sl false 6 96 []], some (.XC), .slice 122⟩ := by kernel_rfl
theorem r0Q : WS Tryz.prog 121 = ⟨6, 96, [.int .i64 0, .str [], .int .i64 0, .str [], .XC, .XC], [.int .i64 0, .str [], .int .i64 0, .str [], .sl false 2 40 [], .sl false 6 96 []], some (.agg [.int .i64 0, .str [], .int .i64 0, .str [], .XC, .XC]), .struct [(0, 1, false), (1, 1, false), (2, 1, false), (3, 2, true), (5, 1, false)]⟩ := by kernel_rfl
theorem r0R : WS Tryz.prog 122 = ⟨6, 96, [.int .i64 0, .str [], .int .i64 0, .str [], .XC, .XC], [.int .i64 0, .str [], .int .i64 0, .str [], .sl false 2 40 [], .sl false 6 96 []], some (.agg [.int .i64 0, .str [], .int .i64 0, .str [], .XC, .XC]), .struct [(0, 1, false), (1, 1, false), (2, 1, false), (3, 2, true), (5, 1, false)]⟩ := by kernel_rfl
theorem r0S : WS Tryz.prog 123 = ⟨10, 152, [.str [], .XC, .int .i64 0, .int .i64 0, .int .i64 0, .str [], .int .i64 0, .str [], .XC, .XC], [.str [], .sl false 2 32 [], .int .i64 0, .int .i64 0, .int .i64 0, .str [], .int .i64 0, .str [], .sl false 2 40 [], .sl false 6 96 []], some (.agg [.str [], .XC, .int .i64 0, .int .i64 0, .int .i64 0, .str [], .int .i64 0, .str [], .XC, .XC]), .struct [(0, 1, false), (1, 1, true), (2, 1, false), (3, 1, false), (4, 6, true)]⟩ := by kernel_rfl
theorem r0T : WS Tryz.prog 124 = ⟨10, 152, [.str [], .XC, .int .i64 0, .int .i64 0, .int .i64 0, .str [], .int .i64 0, .str [], .XC, .XC], [.str [], .sl false 2 32 [], .int .i64 0, .int .i64 0, .int .i64 0, .str [], .int .i64 0, .str [], .sl false 2 40 [], .sl false 6 96 []], some (.agg [.str [], .XC, .int .i64 0, .int .i64 0, .int .i64 0, .str [], .int .i64 0, .str [], .XC, .XC]), .struct [(0, 1, false), (1, 1, true), (2, 1, false), (3, 1, false), (4, 6, true)]⟩ := by kernel_rfl
theorem r0U : WS Tryz.prog 129 = ⟨1, 24, [.XC], [.sl false 3 40 []], some (.XC), .slice 135⟩ := by kernel_rfl
theorem r0V : WS Tryz.prog 131 = ⟨9, 144, [.str [], .XC, .int .i64 0, .int .i64 0, .str [], .int .i64 0, .str [], .XC, .XC], [.str [], .sl false 2 32 [], .int .i64 0, .int .i64 0, .str [], .int .i64 0, .str [], .sl false 2 40 [], .sl false 6 96 []], some (.agg [.str [], .XC, .int .i64 0, .int .i64 0, .str [], .int .i64 0, .str [], .XC, .XC]), .struct [(0, 1, false), (1, 1, true), (2, 1, false), (3, 6, true)]⟩ := by kernel_rfl
theorem r0W : WS Tryz.prog 132 = ⟨9, 144, [.str [], .XC, .int .i64 0, .int .i64 0, .str [], .int .i64 0, .str [], .XC, .XC], [.str [], .sl false 2 32 [], .int .i64 0, .int .i64 0, .str [], .int .i64 0, .str [], .sl false 2 40 [], .sl false 6 96 []], some (.agg [.str [], .XC, .int .i64 0, .int .i64 0, .str [], .int .i64 0, .str [], .XC, .XC]), .struct [(0, 1, false), (1, 1, true), (2, 1, false), (3, 6, true)]⟩ := by kernel_rfl
theorem r0X : WS Tryz.prog 137 = ⟨1, 0, [.any], [.any], some (.any), .other⟩ := by kernel_rfl
theorem r0Y : WS Tryz.prog 139 = ⟨1, 0, [.any], [.any], some (.any), .other⟩ := by kernel_rfl
theorem r0Z : WS Tryz.prog 143 = ⟨1, 24, [.XC], [.sl false 1 24 []], some (.XC), .slice 144⟩ := by kernel_rfl
theorem r1a : WS Tryz.prog 144 = ⟨1, 24, [.XC], [.sl false 1 1 []], some (.XC), .slice 4⟩ := by kernel_rfl
theorem r1b : WS Tryz.prog 153 = ⟨1, 8, [.d8q], [.d8q], some (.d8q), .other⟩ := by kernel_rfl
theorem r1c : WS Tryz.prog 155 = ⟨1, 8, [.i3O], [.i3O], some (.i3O), .ptr 3⟩ := by kernel_rfl
theorem r1d : WS Tryz.prog 156 = ⟨1, 0, [.any], [.any], some (.any), .other⟩ := by kernel_rfl
theorem r1e : WS Tryz.prog 161 = ⟨1, 24, [.XC], [.sl false 2 16 []], some (.XC), .slice 212⟩ := by kernel_rfl
theorem r1f : WS Tryz.prog 162 = ⟨2, 32, [.int .i64 0, .XC], [.int .i64 0, .sl false 2 16 []], some (.agg [.int .i64 0, .XC]), .struct [(0, 1, false), (1, 1, false)]⟩ := by kernel_rfl
theorem r1g : WS Tryz.prog 163 = ⟨2, 32, [.int .i64 0, .XC], [.int .i64 0, .sl false 2 16 []], some (.agg [.int .i64 0, .XC]), .struct [(0, 1, false), (1, 1, false)]⟩ := by kernel_rfl
theorem r1h : WS Tryz.prog 169 = ⟨1, 24, [.XC], [.sl false 1 24 []], some (.XC), .slice 85⟩ := by kernel_rfl
theorem r1i : WS Tryz.prog 171 = ⟨1, 24, [.XC], [.sl false 1 16 []], some (.XC), .slice 9⟩ := by kernel_rfl
theorem r1j : WS Tryz.prog 182 = ⟨3, 32, [.str [], .int .i64 0, .int .i64 0], [.str [], .int .i64 0, .int .i64 0], some (.agg [.str [], .int .i64 0, .int .i64 0]), .struct [(0, 1, false), (1, 1, false), (2, 1, false)]⟩ := by kernel_rfl
theorem r1k : WS Tryz.prog 183 = ⟨3, 32, [.str [], .int .i64 0, .int .i64 0], [.str [], .int .i64 0, .int .i64 0], some (.agg [.str [], .int .i64 0, .int .i64 0]), .struct [(0, 1, false), (1, 1, false), (2, 1, false)]⟩ := by kernel_rfl
theorem r1l : WS Tryz.prog 186 = ⟨1, 24, [.XC], [.sl false 1 24 []], some (.XC), .slice 60⟩ := by kernel_rfl
theorem r1m : WS Tryz.prog 187 = ⟨1, 8, [.d8q], [.d8q], some (.d8q), .other⟩ := by kernel_rfl
theorem r1n : WS Tryz.prog 193 = ⟨1, 24, [.XC], [.sl false 1 8 []], some (.XC), .slice 230⟩ := by kernel_rfl
theorem r1o : WS Tryz.prog 194 = ⟨2, 48, [.XC, .XC], [.sl false 1 8 [], .sl false 1 8 []], some (.agg [.XC, .XC]), .struct [(0, 1, false), (1, 1, false)]⟩ := by kernel_rfl
theorem r1p : WS Tryz.prog 195 = ⟨2, 48, [.XC, .XC], [.sl false 1 8 [], .sl false 1 8 []], some (.agg [.XC, .XC]), .struct [(0, 1, false), (1, 1, false)]⟩ := by kernel_rfl
theorem r1q : WS Tryz.prog 197 = ⟨1, 8, [.i7G], [.i7G], some (.i7G), .map 9 3⟩ := by kernel_rfl
theorem r1r : WS Tryz.prog 198 = ⟨1, 0, [.any], [.any], some (.any), .other⟩ := by kernel_rfl
theorem r1s : WS Tryz.prog 203 = ⟨2, 40, [.str [], .XC], [.str [], .sl false 1 8 []], some (.agg [.str [], .XC]), .struct [(0, 1, false), (1, 1, false)]⟩ := by kernel_rfl
theorem r1t : WS Tryz.prog 204 = ⟨2, 40, [.str [], .XC], [.str [], .sl false 1 8 []], some (.agg [.str [], .XC]), .struct [(0, 1, false), (1, 1, false)]⟩ := by kernel_rfl
theorem r1u : WS Tryz.prog 211 = ⟨2, 16, [.int .i64 0, .int .i64 0], [.int .i64 0, .int .i64 0], some (.agg [.int .i64 0, .int .i64 0]), .struct [(0, 1, false), (1, 1, false)]⟩ := by kernel_rfl
theorem r1v : WS Tryz.prog 212 = ⟨2, 16, [.int .i64 0, .int .i64 0], [.int .i64 0, .int .i64 0], some (.agg [.int .i64 0, .int .i64 0]), .struct [(0, 1, false), (1, 1, false)]⟩ := by kernel_rfl
theorem r1w : WS Tryz.prog 221 = ⟨1, 24, [.XC], [.sl false 1 1 []], some (.XC), .slice 5⟩ := by kernel_rfl
theorem r1x : WS Tryz.prog 225 = ⟨1, 8, [.d8q], [.d8q], some (.d8q), .other⟩ := by kernel_rfl
theorem r1y : WS Tryz.prog 226 = ⟨1, 8, [.d8q], [.d8q], some (.d8q), .other⟩ := by kernel_rfl
theorem r1z : WS Tryz.prog 227 = ⟨1, 8, [.d8q], [.d8q], some (.d8q), .other⟩ := by kernel_rfl
theorem r1A : WS Tryz.prog 230 = ⟨1, 8, [.int .u64 0], [.int .u64 0], some (.int .u64 0), .int .u64⟩ := by kernel_rfl
theorem r1B : WS Tryz.prog 231 = ⟨2, 16, [.int .u64 0, .int .u64 0], [.int .u64 0, .int .u64 0], some (.agg [.int .u64 0, .int .u64 0]), .struct [(0, 1, false), (1, 1, false)]⟩ := by kernel_rfl
theorem r1C : WS Tryz.prog 232 = ⟨2, 16, [.int .u64 0, .int .u64 0], [.int .u64 0, .int .u64 0], some (.agg [.int .u64 0, .int .u64 0]), .struct [(0, 1, false), (1, 1, false)]⟩ := by kernel_rfl
theorem r1D : WS Tryz.prog 236 = ⟨1, 0, [.any], [.any], some (.any), .other⟩ := by kernel_rfl
theorem r1E : WS Tryz.prog 239 = ⟨1, 0, [.any], [.any], some (.any), .other⟩ := by kernel_rfl
theorem r1F : WS Tryz.prog 252 = ⟨1, 0, [.any], [.any], some (.any), .other⟩ := by kernel_rfl
theorem r1G : WS Tryz.prog 263 = ⟨1, 8, [.d8q], [.d8q], some (.d8q), .other⟩ := by kernel_rfl
theorem r1H : WS Tryz.prog 267 = ⟨1, 8, [.int .u64 0], [.int .u64 0], some (.int .u64 0), .int .u64⟩ := by kernel_rfl
theorem r1I : WS Tryz.prog 279 = ⟨1, 8, [.d8q], [.d8q], some (.d8q), .other⟩ := by kernel_rfl
theorem r1J : WS Tryz.prog 280 = ⟨1, 8, [.d8q], [.d8q], some (.d8q), .other⟩ := by kernel_rfl
theorem r1K : WS Tryz.prog 283 = ⟨1, 0, [.any], [.any], some (.any), .other⟩ := by kernel_rfl
theorem r1L : WS Tryz.prog 287 = ⟨8, 112, [.int .i64 0, .str [], .int .i64 0, .str [], .XC, .XC, .int .i64 0, .int .i64 0], [.int .i64 0, .str [], .int .i64 0, .str [], .sl false 2 40 [], .sl false 6 96 [], .int .i64 0, .int .i64 0], some (.agg [.int .i64 0, .str [], .int .i64 0, .str [], .XC, .XC, .int .i64 0, .int .i64 0]), .struct [(0, 6, true), (6, 1, false), (7, 1, false)]⟩ := by kernel_rfl
theorem r1M : WS Tryz.prog 288 = ⟨8, 112, [.int .i64 0, .str [], .int .i64 0, .str [], .XC, .XC, .int .i64 0, .int .i64 0], [.int .i64 0, .str [], .int .i64 0, .str [], .sl false 2 40 [], .sl false 6 96 [], .int .i64 0, .int .i64 0], some (.agg [.int .i64 0, .str [], .int .i64 0, .str [], .XC, .XC, .int .i64 0, .int .i64 0]), .struct [(0, 6, true), (6, 1, false), (7, 1, false)]⟩ := by kernel_rfl
theorem r1N : WS Tryz.prog 289 = ⟨1, 24, [.XC], [.sl false 8 112 []], some (.XC), .slice 288⟩ := by kernel_rfl
theorem r1O : WS Tryz.prog 301 = ⟨1, 4, [.int .u32 0], [.int .u32 0], some (.int .u32 0), .int .u32⟩ := by kernel_rfl
theorem r1P : WS Tryz.prog 302 = ⟨64, 64, [.int .u8 0, .int .u8 0, .int .u8 0, .int .u8 0, .int .u8 0, .int .u8 0, .int .u8 0, .int .u8 0, .int .u8 0, .int .u8 0, .int .u8 0, .int .u8 0, .int .u8 0, .int .u8 0, .int .u8 0, .int .u8 0, .int .u8 0, .int .u8 0, .int .u8 0, .int .u8 0, .int .u8 0, .int .u8 0, .int .u8 0, .int .u8 0, .int .u8 0, .int .u8 0, .int .u8 0, .int .u8 0, .int .u8 0, .int .u8 0, .int .u8 0, .int .u8 0, .int .u8 0, .int .u8 0, .int .u8 0, .int .u8 0, .int .u8 0, .int .u8 0, .int .u8 0, .int .u8 0, .int .u8 0, .int .u8 0, .int .u8 0, .int .u8 0, .int .u8 0, .int .u8 0, .int .u8 0, .int .u8 0, .int .u8 0, .int .u8 0, .int .u8 0, .int .u8 0, .int .u8 0, .int .u8 0, .int .u8 0, .int .u8 0, .int .u8 0, .int .u8 0, .int .u8 0, .int .u8 0, .int .u8 0, .int .u8 0, .int .u8 0, .int .u8 0], [.int .u8 0, .int .u8 0, .int .u8 0, .int .u8 0, .int .u8 0, .int .u8 0, .int .u8 0, .int .u8 0, .int .u8 0, .int .u8 0, .int .u8 0, .int .u8 0, .int .u8 0, .int .u8 0, .int .u8 0, .int .u8 0, .int .u8 0, .int .u8 0, .int .u8 0, .int .u8 0, .int .u8 0, .int .u8 0, .int .u8 0, .int .u8 0, .int .u8 0, .int .u8 0, .int .u8 0, .int .u8 0, .int .u8 0, .int .u8 0, .int .u8 0, .int .u8 0, .int .u8 0, .int .u8 0, .int .u8 0, .int .u8 0, .int .u8 0, .int .u8 0, .int .u8 0, .int .u8 0, .int .u8 0, .int .u8 0, .int .u8 0, .int .u8 0, .int .u8 0, .int .u8 0, .int .u8 0, .int .u8 0, .int .u8 0, .int .u8 0, .int .u8 0, .int .u8 0, .int .u8 0, .int .u8 0, .int .u8 0, .int .u8 0, .int .u8 0, .int .u8 0, .int .u8 0, .int .u8 0, .int .u8 0, .int .u8 0, .int .u8 0, .int .u8 0], some (.agg [.int .u8 0, .int .u8 0, .int .u8 0, .int .u8 0, .int .u8 0, .int .u8 0, .int .u8 0, .int .u8 0, .int .u8 0, .int .u8 0, .int .u8 0, .int .u8 0, .int .u8 0, .int .u8 0, .int .u8 0, .int .u8 0, .int .u8 0, .int .u8 0, .int .u8 0, .int .u8 0, .int .u8 0, .int .u8 0, .int .u8 0, .int .u8 0, .int .u8 0, .int .u8 0, .int .u8 0, .int .u8 0, .int .u8 0, .int .u8 0, .int .u8 0, .int .u8 0, .int .u8 0, .int .u8 0, .int .u8 0, .int .u8 0, .int .u8 0, .int .u8 0, .int .u8 0, .int .u8 0, .int .u8 0, .int .u8 0, .int .u8 0, .int .u8 0, .int .u8 0, .int .u8 0, .int .u8 0, .int .u8 0, .int .u8 0, .int .u8 0, .int .u8 0, .int .u8 0, .int .u8 0, .int .u8 0, .int .u8 0, .int .u8 0, .int .u8 0, .int .u8 0, .int .u8 0, .int .u8 0, .int .u8 0, .int .u8 0, .int .u8 0, .int .u8 0]), .arr 64 5⟩ := by kernel_rfl
theorem r1Q : WS Tryz.prog 303 = ⟨1, 8, [.d8q], [.d8q], some (.d8q), .other⟩ := by kernel_rfl
theorem r1R : WS Tryz.prog 305 = ⟨256, 256, (List.replicate 256 (.int .u8 0)), [], some (.agg (List.replicate 256 (.int .u8 0))), .arr 256 5⟩ := by kernel_rfl
theorem r1S : WS Tryz.prog 306 = ⟨2, 2, [.int .u8 0, .int .u8 0], [.int .u8 0, .int .u8 0], some (.agg [.int .u8 0, .int .u8 0]), .struct [(0, 1, false), (1, 1, false)]⟩ := by kernel_rfl
theorem r1T : WS Tryz.prog 307 = ⟨2, 2, [.int .u8 0, .int .u8 0], [.int .u8 0, .int .u8 0], some (.agg [.int .u8 0, .int .u8 0]), .struct [(0, 1, false), (1, 1, false)]⟩ := by kernel_rfl
theorem r1U : WS Tryz.prog 308 = ⟨32, 32, [.int .u8 0, .int .u8 0, .int .u8 0, .int .u8 0, .int .u8 0, .int .u8 0, .int .u8 0, .int .u8 0, .int .u8 0, .int .u8 0, .int .u8 0, .int .u8 0, .int .u8 0, .int .u8 0, .int .u8 0, .int .u8 0, .int .u8 0, .int .u8 0, .int .u8 0, .int .u8 0, .int .u8 0, .int .u8 0, .int .u8 0, .int .u8 0, .int .u8 0, .int .u8 0, .int .u8 0, .int .u8 0, .int .u8 0, .int .u8 0, .int .u8 0, .int .u8 0], [.int .u8 0, .int .u8 0, .int .u8 0, .int .u8 0, .int .u8 0, .int .u8 0, .int .u8 0, .int .u8 0, .int .u8 0, .int .u8 0, .int .u8 0, .int .u8 0, .int .u8 0, .int .u8 0, .int .u8 0, .int .u8 0, .int .u8 0, .int .u8 0, .int .u8 0, .int .u8 0, .int .u8 0, .int .u8 0, .int .u8 0, .int .u8 0, .int .u8 0, .int .u8 0, .int .u8 0, .int .u8 0, .int .u8 0, .int .u8 0, .int .u8 0, .int .u8 0], some (.agg [.int .u8 0, .int .u8 0, .int .u8 0, .int .u8 0, .int .u8 0, .int .u8 0, .int .u8 0, .int .u8 0, .int .u8 0, .int .u8 0, .int .u8 0, .int .u8 0, .int .u8 0, .int .u8 0, .int .u8 0, .int .u8 0, .int .u8 0, .int .u8 0, .int .u8 0, .int .u8 0, .int .u8 0, .int .u8 0, .int .u8 0, .int .u8 0, .int .u8 0, .int .u8 0, .int .u8 0, .int .u8 0, .int .u8 0, .int .u8 0, .int .u8 0, .int .u8 0]), .arr 16 307⟩ := by kernel_rfl
theorem r1V : WS Tryz.prog 310 = ⟨3, 48, [.str [], .XC, .int .i64 0], [.str [], .sl false 2 40 [], .int .i64 0], some (.agg [.str [], .XC, .int .i64 0]), .struct [(0, 2, true), (2, 1, false)]⟩ := by kernel_rfl
theorem r1W : WS Tryz.prog 311 = ⟨3, 48, [.str [], .XC, .int .i64 0], [.str [], .sl false 2 40 [], .int .i64 0], some (.agg [.str [], .XC, .int .i64 0]), .struct [(0, 2, true), (2, 1, false)]⟩ := by kernel_rfl
theorem r1X : WS Tryz.prog 312 = ⟨1, 24, [.XC], [.sl false 3 48 []], some (.XC), .slice 311⟩ := by kernel_rfl
theorem r1Y : WS Tryz.prog 313 = ⟨1, 24, [.XC], [.sl false 7 104 []], some (.XC), .slice 316⟩ := by kernel_rfl
theorem r1Z : WS Tryz.prog 315 = ⟨7, 104, [.int .i64 0, .str [], .str [], .XC, .int .i64 0, .XC, .int .i64 0], [.int .i64 0, .str [], .str [], .sl false 2 40 [], .int .i64 0, .sl false 1 8 [], .int .i64 0], some (.agg [.int .i64 0, .str [], .str [], .XC, .int .i64 0, .XC, .int .i64 0]), .struct [(0, 1, false), (1, 1, false), (2, 2, true), (4, 1, false), (5, 1, false), (6, 1, false)]⟩ := by kernel_rfl
theorem r2a : WS Tryz.prog 316 = ⟨7, 104, [.int .i64 0, .str [], .str [], .XC, .int .i64 0, .XC, .int .i64 0], [.int .i64 0, .str [], .str [], .sl false 2 40 [], .int .i64 0, .sl false 1 8 [], .int .i64 0], some (.agg [.int .i64 0, .str [], .str [], .XC, .int .i64 0, .XC, .int .i64 0]), .struct [(0, 1, false), (1, 1, false), (2, 2, true), (4, 1, false), (5, 1, false), (6, 1, false)]⟩ := by kernel_rfl
theorem r2b : WS Tryz.prog 324 = ⟨256, 256, (List.replicate 256 (.bool false)), [], some (.agg (List.replicate 256 (.bool false))), .arr 256 4⟩ := by kernel_rfl
theorem r2c : WS Tryz.prog 325 = ⟨256, 256, (List.replicate 256 (.bool false)), [], some (.agg (List.replicate 256 (.bool false))), .arr 256 4⟩ := by kernel_rfl
theorem r2d : WS Tryz.prog 326 = ⟨1, 0, [.any], [.any], some (.any), .other⟩ := by kernel_rfl
theorem r2e : WS Tryz.prog 336 = ⟨1, 8, [.i3O], [.i3O], some (.i3O), .ptr 325⟩ := by kernel_rfl
theorem r2f : WS Tryz.prog 348 = ⟨1, 8, [.i3O], [.i3O], some (.i3O), .ptr 5⟩ := by kernel_rfl
theorem fk7 : XD Tryz.prog 7 = some [1, 1, 3, 1] := by kernel_rfl
theorem r3L : XD Tryz.prog 24 = some [0, 0] := by kernel_rfl
theorem r3M : XD Tryz.prog 25 = some [0, 0] := by kernel_rfl
theorem r3N : XD Tryz.prog 29 = some [0] := by kernel_rfl
theorem r3O : XD Tryz.prog 30 = some [0] := by kernel_rfl
theorem r3P : XD Tryz.prog 38 = some [0, 0, 0, 0] := by kernel_rfl
theorem r3Q : XD Tryz.prog 39 = some [0, 0, 0, 0] := by kernel_rfl
theorem r3R : XD Tryz.prog 40 = some [1, 1] := by kernel_rfl
theorem r3S : XD Tryz.prog 41 = some [1, 1] := by kernel_rfl
theorem r3T : XD Tryz.prog 53 = some [1, 1, 0] := by kernel_rfl
theorem r3U : XD Tryz.prog 54 = some [1, 1, 0] := by kernel_rfl
theorem r3V : XD Tryz.prog 55 = some [1, 1, 0] := by kernel_rfl
theorem r3W : XD Tryz.prog 56 = some [1, 1, 0] := by kernel_rfl
theorem r3X : XD Tryz.prog 61 = some [0, 0] := by kernel_rfl
theorem r3Y : XD Tryz.prog 62 = some [0, 0] := by kernel_rfl
theorem r3Z : XD Tryz.prog 66 = some [1, 1, 0] := by kernel_rfl
theorem r4a : XD Tryz.prog 67 = some [1, 1, 0] := by kernel_rfl
theorem r4b : XD Tryz.prog 70 = some [1, 1] := by kernel_rfl
theorem r4c : XD Tryz.prog 71 = some [1, 1] := by kernel_rfl
theorem r2g : XD Tryz.prog 118 = some [2, 0] := by kernel_rfl
theorem r2h : XD Tryz.prog 119 = some [2, 0] := by kernel_rfl
theorem r2i : XD Tryz.prog 123 = some [2, 0, 1, 1, 0] := by kernel_rfl
theorem r2j : XD Tryz.prog 124 = some [2, 0, 1, 1, 0] := by kernel_rfl
theorem r2k : XD Tryz.prog 131 = some [2, 0, 1, 0] := by kernel_rfl
theorem r2l : XD Tryz.prog 132 = some [2, 0, 1, 0] := by kernel_rfl
theorem r2m : XD Tryz.prog 162 = some [1, 0] := by kernel_rfl
theorem r2n : XD Tryz.prog 163 = some [1, 0] := by kernel_rfl
theorem r2o : XD Tryz.prog 182 = some [2, 1, 1] := by kernel_rfl
theorem r2p : XD Tryz.prog 183 = some [2, 1, 1] := by kernel_rfl
theorem r2q : XD Tryz.prog 194 = some [0, 0] := by kernel_rfl
theorem r2r : XD Tryz.prog 195 = some [0, 0] := by kernel_rfl
theorem r2s : XD Tryz.prog 203 = some [2, 0] := by kernel_rfl
theorem r2t : XD Tryz.prog 204 = some [2, 0] := by kernel_rfl
theorem r2u : XD Tryz.prog 211 = some [1, 1] := by kernel_rfl
theorem r2v : XD Tryz.prog 212 = some [1, 1] := by kernel_rfl
theorem r2w : XD Tryz.prog 231 = some [1, 1] := by kernel_rfl
theorem r2x : XD Tryz.prog 232 = some [1, 1] := by kernel_rfl
theorem r2y : XD Tryz.prog 306 = some [1, 1] := by kernel_rfl
theorem r2z : XD Tryz.prog 307 = some [1, 1] := by kernel_rfl
attribute [go_sem] ty0 ty2 ty3 ty4 ty5 ty7 ty9 r2P r2Q r2R r2S r2T r2U r2V r2W r2X r2Y r2Z r3a r3b r3c r3d r3e r3f r3g r3h r3i r3j r3k r3l r3m r3n r3o r3p r3q r3r r3s r3t r3u r3v r3w r3x r3y r3z r3A r3B r3C r3D r3E r3F r3G r3H r3I r3J r3K r0J r0K r0L r0M r0N r0O r0P r0Q r0R r0S r0T r0U r0V r0W r0X r0Y r0Z r1a r1b r1c r1d r1e r1f r1g r1h r1i r1j r1k r1l r1m r1n r1o r1p r1q r1r r1s r1t r1u r1v r1w r1x r1y r1z r1A r1B r1C r1D r1E r1F r1G r1H r1I r1J r1K r1L r1M r1N r1O r1P r1Q r1R r1S r1T r1U r1V r1W r1X r1Y r1Z r2a r2b r2c r2d r2e r2f fk7 r3L r3M r3N r3O r3P r3Q r3R r3S r3T r3U r3V r3W r3X r3Y r3Z r4a r4b r4c r2g r2h r2i r2j r2k r2l r2m r2n r2o r2p r2q r2r r2s r2t r2u r2v r2w r2x r2y r2z 
end Go.Proofs.YtgaeiccgdpnkkaaGreatDoor

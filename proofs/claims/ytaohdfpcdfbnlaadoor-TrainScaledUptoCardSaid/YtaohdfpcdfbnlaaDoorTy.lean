/-
  The types of this translation, as the evaluator sees them (printed by a program of ours).
-/
import Derived.Test.YtaohdfpcdfbnlaaDoorProg
import Derived.Test.YtaohdfpcdfbnlaaDoorAm3
set_option linter.unusedVariables false
set_option linter.unusedSimpArgs false
namespace Go.Proofs.YtaohdfpcdfbnlaaDoor
open Go Go.Am
theorem ty0 : tinfo Tryd.prog 0 = ⟨1, 0, [.any], [.any], some (.any), .other⟩ := by kernel_rfl
theorem ty1 : tinfo Tryd.prog 1 = ⟨1, 8, [.nilf], [.nilf], some (.nilf), .other⟩ := by kernel_rfl
theorem ty2 : tinfo Tryd.prog 2 = ⟨1, 8, [.int .i64 0], [.int .i64 0], some (.int .i64 0), .int .i64⟩ := by kernel_rfl
theorem ty3 : tinfo Tryd.prog 3 = ⟨1, 8, [.int .i64 0], [.int .i64 0], some (.int .i64 0), .int .i64⟩ := by kernel_rfl
theorem ty4 : tinfo Tryd.prog 4 = ⟨1, 1, [.bool false], [.bool false], some (.bool false), .bool⟩ := by kernel_rfl
theorem ty5 : tinfo Tryd.prog 5 = ⟨1, 1, [.int .u8 0], [.int .u8 0], some (.int .u8 0), .int .u8⟩ := by kernel_rfl
theorem ty6 : tinfo Tryd.prog 6 = ⟨1, 1, [.int .u8 0], [.int .u8 0], some (.int .u8 0), .int .u8⟩ := by kernel_rfl
theorem ty7 : tinfo Tryd.prog 7 = ⟨4, 24, [.int .i64 0, .int .i64 0, .bool false, .int .u8 0], [.int .i64 0, .int .i64 0, .bool false, .int .u8 0], some (.agg [.int .i64 0, .int .i64 0, .bool false, .int .u8 0]), .struct [(0, 1, false), (1, 1, false), (2, 1, false), (3, 1, false)]⟩ := by kernel_rfl
theorem ty8 : tinfo Tryd.prog 8 = ⟨4, 24, [.int .i64 0, .int .i64 0, .bool false, .int .u8 0], [.int .i64 0, .int .i64 0, .bool false, .int .u8 0], some (.agg [.int .i64 0, .int .i64 0, .bool false, .int .u8 0]), .struct [(0, 1, false), (1, 1, false), (2, 1, false), (3, 1, false)]⟩ := by kernel_rfl
theorem ty9 : tinfo Tryd.prog 9 = ⟨1, 16, [.str []], [.str []], some (.str []), .str⟩ := by kernel_rfl
theorem ty10 : tinfo Tryd.prog 10 = ⟨1, 16, [.str []], [.str []], some (.str []), .str⟩ := by kernel_rfl
theorem ty11 : tinfo Tryd.prog 11 = ⟨1, 16, [.str []], [.str []], some (.str []), .str⟩ := by kernel_rfl
theorem ty12 : tinfo Tryd.prog 12 = ⟨1, 8, [.int .u64 0], [.int .u64 0], some (.int .u64 0), .int .u64⟩ := by kernel_rfl
theorem ty13 : tinfo Tryd.prog 13 = ⟨2, 24, [.str [], .int .u64 0], [.str [], .int .u64 0], some (.agg [.str [], .int .u64 0]), .struct [(0, 1, false), (1, 1, false)]⟩ := by kernel_rfl
theorem ty14 : tinfo Tryd.prog 14 = ⟨2, 24, [.str [], .int .u64 0], [.str [], .int .u64 0], some (.agg [.str [], .int .u64 0]), .struct [(0, 1, false), (1, 1, false)]⟩ := by kernel_rfl
theorem ty15 : tinfo Tryd.prog 15 = ⟨1, 8, [.nilp], [.nilp], some (.nilp), .ptr 167⟩ := by kernel_rfl
theorem ty16 : tinfo Tryd.prog 16 = ⟨1, 8, [.nilp], [.nilp], some (.nilp), .ptr 170⟩ := by kernel_rfl
theorem ty17 : tinfo Tryd.prog 17 = ⟨1, 8, [.nilp], [.nilp], some (.nilp), .ptr 180⟩ := by kernel_rfl
theorem ty18 : tinfo Tryd.prog 18 = ⟨1, 8, [.nilp], [.nilp], some (.agg [.nilp]), .struct [(0, 1, false)]⟩ := by kernel_rfl
theorem ty19 : tinfo Tryd.prog 19 = ⟨1, 8, [.nilp], [.nilp], some (.agg [.nilp]), .struct [(0, 1, false)]⟩ := by kernel_rfl
theorem ty20 : tinfo Tryd.prog 20 = ⟨1, 16, [.any], [.any], some (.any), .other⟩ := by kernel_rfl
theorem ty21 : tinfo Tryd.prog 21 = ⟨1, 4, [.int .i32 0], [.int .i32 0], some (.int .i32 0), .int .i32⟩ := by kernel_rfl
theorem ty22 : tinfo Tryd.prog 22 = ⟨1, 24, [.nils], [.sl false 2 40 []], some (.nils), .slice 107⟩ := by kernel_rfl
theorem ty23 : tinfo Tryd.prog 23 = ⟨1, 24, [.nils], [.sl false 3 32 []], some (.nils), .slice 69⟩ := by kernel_rfl
theorem ty24 : tinfo Tryd.prog 24 = ⟨2, 48, [.nils, .nils], [.sl false 2 40 [], .sl false 3 32 []], some (.agg [.nils, .nils]), .struct [(0, 1, false), (1, 1, false)]⟩ := by kernel_rfl
theorem ty25 : tinfo Tryd.prog 25 = ⟨2, 48, [.nils, .nils], [.sl false 2 40 [], .sl false 3 32 []], some (.agg [.nils, .nils]), .struct [(0, 1, false), (1, 1, false)]⟩ := by kernel_rfl
theorem ty26 : tinfo Tryd.prog 26 = ⟨1, 24, [.nils], [.sl false 10 152 []], some (.nils), .slice 76⟩ := by kernel_rfl
theorem ty27 : tinfo Tryd.prog 27 = ⟨1, 24, [.nils], [.sl false 9 144 []], some (.nils), .slice 79⟩ := by kernel_rfl
theorem ty28 : tinfo Tryd.prog 28 = ⟨1, 24, [.nils], [.sl false 2 32 []], some (.nils), .slice 102⟩ := by kernel_rfl
theorem ty29 : tinfo Tryd.prog 29 = ⟨1, 24, [.nils], [.sl false 2 32 []], some (.agg [.nils]), .struct [(0, 1, false)]⟩ := by kernel_rfl
theorem ty30 : tinfo Tryd.prog 30 = ⟨1, 24, [.nils], [.sl false 2 32 []], some (.agg [.nils]), .struct [(0, 1, false)]⟩ := by kernel_rfl
theorem ty31 : tinfo Tryd.prog 31 = ⟨5, 120, [.nils, .nils, .nils, .nils, .nils], [.sl false 2 40 [], .sl false 3 32 [], .sl false 10 152 [], .sl false 9 144 [], .sl false 2 32 []], some (.agg [.nils, .nils, .nils, .nils, .nils]), .struct [(0, 2, true), (2, 1, false), (3, 1, false), (4, 1, true)]⟩ := by kernel_rfl
theorem ty32 : tinfo Tryd.prog 32 = ⟨5, 120, [.nils, .nils, .nils, .nils, .nils], [.sl false 2 40 [], .sl false 3 32 [], .sl false 10 152 [], .sl false 9 144 [], .sl false 2 32 []], some (.agg [.nils, .nils, .nils, .nils, .nils]), .struct [(0, 2, true), (2, 1, false), (3, 1, false), (4, 1, true)]⟩ := by kernel_rfl
theorem ty33 : tinfo Tryd.prog 33 = ⟨1, 24, [.nils], [.sl false 3 40 []], some (.nils), .slice 36⟩ := by kernel_rfl
theorem ty34 : tinfo Tryd.prog 34 = ⟨1, 8, [.nilf], [.nilf], some (.nilf), .other⟩ := by kernel_rfl
theorem ty35 : tinfo Tryd.prog 35 = ⟨3, 40, [.int .i64 0, .int .i64 0, .nils], [.int .i64 0, .int .i64 0, .sl false 3 40 []], some (.agg [.int .i64 0, .int .i64 0, .nils]), .struct [(0, 1, false), (1, 1, false), (2, 1, false)]⟩ := by kernel_rfl
theorem ty36 : tinfo Tryd.prog 36 = ⟨3, 40, [.int .i64 0, .int .i64 0, .nils], [.int .i64 0, .int .i64 0, .sl false 3 40 []], some (.agg [.int .i64 0, .int .i64 0, .nils]), .struct [(0, 1, false), (1, 1, false), (2, 1, false)]⟩ := by kernel_rfl
theorem ty37 : tinfo Tryd.prog 37 = ⟨1, 24, [.nils], [.sl false 1 8 []], some (.nils), .slice 3⟩ := by kernel_rfl
theorem ty38 : tinfo Tryd.prog 38 = ⟨2, 48, [.nils, .nils], [.sl false 1 8 [], .sl false 1 8 []], some (.agg [.nils, .nils]), .struct [(0, 1, false), (1, 1, false)]⟩ := by kernel_rfl
theorem ty39 : tinfo Tryd.prog 39 = ⟨2, 48, [.nils, .nils], [.sl false 1 8 [], .sl false 1 8 []], some (.agg [.nils, .nils]), .struct [(0, 1, false), (1, 1, false)]⟩ := by kernel_rfl
theorem ty40 : tinfo Tryd.prog 40 = ⟨2, 16, [.int .i64 0, .int .i64 0], [.int .i64 0, .int .i64 0], some (.agg [.int .i64 0, .int .i64 0]), .struct [(0, 1, false), (1, 1, false)]⟩ := by kernel_rfl
theorem ty41 : tinfo Tryd.prog 41 = ⟨2, 16, [.int .i64 0, .int .i64 0], [.int .i64 0, .int .i64 0], some (.agg [.int .i64 0, .int .i64 0]), .struct [(0, 1, false), (1, 1, false)]⟩ := by kernel_rfl
theorem ty42 : tinfo Tryd.prog 42 = ⟨1, 0, [.any], [.any], some (.any), .other⟩ := by kernel_rfl
theorem ty43 : tinfo Tryd.prog 43 = ⟨1, 8, [.nilf], [.nilf], some (.nilf), .other⟩ := by kernel_rfl
theorem ty44 : tinfo Tryd.prog 44 = ⟨1, 8, [.nilf], [.nilf], some (.nilf), .other⟩ := by kernel_rfl
theorem ty45 : tinfo Tryd.prog 45 = ⟨1, 24, [.nils], [.sl false 2 16 []], some (.nils), .slice 49⟩ := by kernel_rfl
theorem ty46 : tinfo Tryd.prog 46 = ⟨1, 0, [.any], [.any], some (.any), .other⟩ := by kernel_rfl
theorem ty47 : tinfo Tryd.prog 47 = ⟨1, 8, [.nilf], [.nilf], some (.nilf), .other⟩ := by kernel_rfl
theorem ty48 : tinfo Tryd.prog 48 = ⟨2, 16, [.int .i64 0, .int .i64 0], [.int .i64 0, .int .i64 0], some (.agg [.int .i64 0, .int .i64 0]), .struct [(0, 1, false), (1, 1, false)]⟩ := by kernel_rfl
theorem ty49 : tinfo Tryd.prog 49 = ⟨2, 16, [.int .i64 0, .int .i64 0], [.int .i64 0, .int .i64 0], some (.agg [.int .i64 0, .int .i64 0]), .struct [(0, 1, false), (1, 1, false)]⟩ := by kernel_rfl
theorem ty50 : tinfo Tryd.prog 50 = ⟨1, 8, [.nilf], [.nilf], some (.nilf), .other⟩ := by kernel_rfl
theorem ty51 : tinfo Tryd.prog 51 = ⟨1, 8, [.nilf], [.nilf], some (.nilf), .other⟩ := by kernel_rfl
theorem ty52 : tinfo Tryd.prog 52 = ⟨1, 0, [.any], [.any], some (.any), .other⟩ := by kernel_rfl
theorem ty53 : tinfo Tryd.prog 53 = ⟨1, 8, [.nilf], [.nilf], some (.nilf), .other⟩ := by kernel_rfl
theorem ty54 : tinfo Tryd.prog 54 = ⟨1, 8, [.nilf], [.nilf], some (.nilf), .other⟩ := by kernel_rfl
theorem ty55 : tinfo Tryd.prog 55 = ⟨1, 8, [.nilf], [.nilf], some (.nilf), .other⟩ := by kernel_rfl
theorem ty56 : tinfo Tryd.prog 56 = ⟨1, 8, [.nilf], [.nilf], some (.nilf), .other⟩ := by kernel_rfl
theorem ty57 : tinfo Tryd.prog 57 = ⟨1, 8, [.nilf], [.nilf], some (.nilf), .other⟩ := by kernel_rfl
theorem ty58 : tinfo Tryd.prog 58 = ⟨1, 8, [.nilf], [.nilf], some (.nilf), .other⟩ := by kernel_rfl
theorem ty59 : tinfo Tryd.prog 59 = ⟨1, 0, [.any], [.any], some (.any), .other⟩ := by kernel_rfl
theorem ty60 : tinfo Tryd.prog 60 = ⟨1, 8, [.nilf], [.nilf], some (.nilf), .other⟩ := by kernel_rfl
theorem ty61 : tinfo Tryd.prog 61 = ⟨1, 24, [.nils], [.sl false 2 40 []], some (.nils), .slice 63⟩ := by kernel_rfl
theorem ty62 : tinfo Tryd.prog 62 = ⟨2, 40, [.str [], .nils], [.str [], .sl false 2 40 []], some (.agg [.str [], .nils]), .struct [(0, 1, false), (1, 1, false)]⟩ := by kernel_rfl
theorem ty63 : tinfo Tryd.prog 63 = ⟨2, 40, [.str [], .nils], [.str [], .sl false 2 40 []], some (.agg [.str [], .nils]), .struct [(0, 1, false), (1, 1, false)]⟩ := by kernel_rfl
theorem ty64 : tinfo Tryd.prog 64 = ⟨1, 8, [.nilf], [.nilf], some (.nilf), .other⟩ := by kernel_rfl
theorem ty65 : tinfo Tryd.prog 65 = ⟨1, 8, [.nilf], [.nilf], some (.nilf), .other⟩ := by kernel_rfl
theorem ty66 : tinfo Tryd.prog 66 = ⟨1, 8, [.nilf], [.nilf], some (.nilf), .other⟩ := by kernel_rfl
theorem ty67 : tinfo Tryd.prog 67 = ⟨1, 24, [.nils], [.sl false 1 16 []], some (.nils), .slice 9⟩ := by kernel_rfl
theorem ty68 : tinfo Tryd.prog 68 = ⟨3, 32, [.str [], .int .i64 0, .int .i64 0], [.str [], .int .i64 0, .int .i64 0], some (.agg [.str [], .int .i64 0, .int .i64 0]), .struct [(0, 1, false), (1, 1, false), (2, 1, false)]⟩ := by kernel_rfl
theorem ty69 : tinfo Tryd.prog 69 = ⟨3, 32, [.str [], .int .i64 0, .int .i64 0], [.str [], .int .i64 0, .int .i64 0], some (.agg [.str [], .int .i64 0, .int .i64 0]), .struct [(0, 1, false), (1, 1, false), (2, 1, false)]⟩ := by kernel_rfl
theorem ty70 : tinfo Tryd.prog 70 = ⟨1, 24, [.nils], [.sl false 6 96 []], some (.nils), .slice 73⟩ := by kernel_rfl
theorem ty71 : tinfo Tryd.prog 71 = ⟨1, 8, [.nilf], [.nilf], some (.nilf), .other⟩ := by kernel_rfl
theorem ty72 : tinfo Tryd.prog 72 = ⟨6, 96, [.int .i64 0, .str [], .int .i64 0, .str [], .nils, .nils], [.int .i64 0, .str [], .int .i64 0, .str [], .sl false 2 40 [], .sl false 6 96 []], some (.agg [.int .i64 0, .str [], .int .i64 0, .str [], .nils, .nils]), .struct [(0, 1, false), (1, 1, false), (2, 1, false), (3, 2, true), (5, 1, false)]⟩ := by kernel_rfl
theorem ty73 : tinfo Tryd.prog 73 = ⟨6, 96, [.int .i64 0, .str [], .int .i64 0, .str [], .nils, .nils], [.int .i64 0, .str [], .int .i64 0, .str [], .sl false 2 40 [], .sl false 6 96 []], some (.agg [.int .i64 0, .str [], .int .i64 0, .str [], .nils, .nils]), .struct [(0, 1, false), (1, 1, false), (2, 1, false), (3, 2, true), (5, 1, false)]⟩ := by kernel_rfl
theorem ty74 : tinfo Tryd.prog 74 = ⟨1, 8, [.nilf], [.nilf], some (.nilf), .other⟩ := by kernel_rfl
theorem ty75 : tinfo Tryd.prog 75 = ⟨10, 152, [.str [], .nils, .int .i64 0, .int .i64 0, .int .i64 0, .str [], .int .i64 0, .str [], .nils, .nils], [.str [], .sl false 2 32 [], .int .i64 0, .int .i64 0, .int .i64 0, .str [], .int .i64 0, .str [], .sl false 2 40 [], .sl false 6 96 []], some (.agg [.str [], .nils, .int .i64 0, .int .i64 0, .int .i64 0, .str [], .int .i64 0, .str [], .nils, .nils]), .struct [(0, 1, false), (1, 1, true), (2, 1, false), (3, 1, false), (4, 6, true)]⟩ := by kernel_rfl
theorem ty76 : tinfo Tryd.prog 76 = ⟨10, 152, [.str [], .nils, .int .i64 0, .int .i64 0, .int .i64 0, .str [], .int .i64 0, .str [], .nils, .nils], [.str [], .sl false 2 32 [], .int .i64 0, .int .i64 0, .int .i64 0, .str [], .int .i64 0, .str [], .sl false 2 40 [], .sl false 6 96 []], some (.agg [.str [], .nils, .int .i64 0, .int .i64 0, .int .i64 0, .str [], .int .i64 0, .str [], .nils, .nils]), .struct [(0, 1, false), (1, 1, true), (2, 1, false), (3, 1, false), (4, 6, true)]⟩ := by kernel_rfl
theorem ty77 : tinfo Tryd.prog 77 = ⟨1, 24, [.nils], [.sl false 1 24 []], some (.nils), .slice 37⟩ := by kernel_rfl
theorem ty78 : tinfo Tryd.prog 78 = ⟨9, 144, [.str [], .nils, .int .i64 0, .int .i64 0, .str [], .int .i64 0, .str [], .nils, .nils], [.str [], .sl false 2 32 [], .int .i64 0, .int .i64 0, .str [], .int .i64 0, .str [], .sl false 2 40 [], .sl false 6 96 []], some (.agg [.str [], .nils, .int .i64 0, .int .i64 0, .str [], .int .i64 0, .str [], .nils, .nils]), .struct [(0, 1, false), (1, 1, true), (2, 1, false), (3, 6, true)]⟩ := by kernel_rfl
theorem ty79 : tinfo Tryd.prog 79 = ⟨9, 144, [.str [], .nils, .int .i64 0, .int .i64 0, .str [], .int .i64 0, .str [], .nils, .nils], [.str [], .sl false 2 32 [], .int .i64 0, .int .i64 0, .str [], .int .i64 0, .str [], .sl false 2 40 [], .sl false 6 96 []], some (.agg [.str [], .nils, .int .i64 0, .int .i64 0, .str [], .int .i64 0, .str [], .nils, .nils]), .struct [(0, 1, false), (1, 1, true), (2, 1, false), (3, 6, true)]⟩ := by kernel_rfl
theorem ty80 : tinfo Tryd.prog 80 = ⟨1, 8, [.nilf], [.nilf], some (.nilf), .other⟩ := by kernel_rfl
theorem ty81 : tinfo Tryd.prog 81 = ⟨1, 8, [.nilf], [.nilf], some (.nilf), .other⟩ := by kernel_rfl
theorem ty82 : tinfo Tryd.prog 82 = ⟨1, 8, [.nilf], [.nilf], some (.nilf), .other⟩ := by kernel_rfl
theorem ty83 : tinfo Tryd.prog 83 = ⟨1, 8, [.nilf], [.nilf], some (.nilf), .other⟩ := by kernel_rfl
theorem ty84 : tinfo Tryd.prog 84 = ⟨1, 8, [.nilf], [.nilf], some (.nilf), .other⟩ := by kernel_rfl
theorem ty85 : tinfo Tryd.prog 85 = ⟨1, 8, [.nilf], [.nilf], some (.nilf), .other⟩ := by kernel_rfl
theorem ty86 : tinfo Tryd.prog 86 = ⟨1, 0, [.any], [.any], some (.any), .other⟩ := by kernel_rfl
theorem ty87 : tinfo Tryd.prog 87 = ⟨1, 8, [.nilf], [.nilf], some (.nilf), .other⟩ := by kernel_rfl
theorem ty88 : tinfo Tryd.prog 88 = ⟨1, 8, [.nilf], [.nilf], some (.nilf), .other⟩ := by kernel_rfl
theorem ty89 : tinfo Tryd.prog 89 = ⟨1, 24, [.nils], [.sl false 1 8 []], some (.nils), .slice 115⟩ := by kernel_rfl
theorem ty90 : tinfo Tryd.prog 90 = ⟨2, 48, [.nils, .nils], [.sl false 1 8 [], .sl false 1 8 []], some (.agg [.nils, .nils]), .struct [(0, 1, false), (1, 1, false)]⟩ := by kernel_rfl
theorem ty91 : tinfo Tryd.prog 91 = ⟨2, 48, [.nils, .nils], [.sl false 1 8 [], .sl false 1 8 []], some (.agg [.nils, .nils]), .struct [(0, 1, false), (1, 1, false)]⟩ := by kernel_rfl
theorem ty92 : tinfo Tryd.prog 92 = ⟨1, 8, [.nilf], [.nilf], some (.nilf), .other⟩ := by kernel_rfl
theorem ty93 : tinfo Tryd.prog 93 = ⟨1, 8, [.nilm], [.nilm], some (.nilm), .map 9 3⟩ := by kernel_rfl
theorem ty94 : tinfo Tryd.prog 94 = ⟨1, 8, [.nilf], [.nilf], some (.nilf), .other⟩ := by kernel_rfl
theorem ty95 : tinfo Tryd.prog 95 = ⟨1, 0, [.any], [.any], some (.any), .other⟩ := by kernel_rfl
theorem ty96 : tinfo Tryd.prog 96 = ⟨1, 8, [.nilf], [.nilf], some (.nilf), .other⟩ := by kernel_rfl
theorem ty97 : tinfo Tryd.prog 97 = ⟨1, 8, [.nilf], [.nilf], some (.nilf), .other⟩ := by kernel_rfl
theorem ty98 : tinfo Tryd.prog 98 = ⟨1, 8, [.nilf], [.nilf], some (.nilf), .other⟩ := by kernel_rfl
theorem ty99 : tinfo Tryd.prog 99 = ⟨1, 8, [.nilf], [.nilf], some (.nilf), .other⟩ := by kernel_rfl
theorem ty100 : tinfo Tryd.prog 100 = ⟨1, 24, [.nils], [.sl false 2 16 []], some (.nils), .slice 109⟩ := by kernel_rfl
theorem ty101 : tinfo Tryd.prog 101 = ⟨2, 32, [.int .i64 0, .nils], [.int .i64 0, .sl false 2 16 []], some (.agg [.int .i64 0, .nils]), .struct [(0, 1, false), (1, 1, false)]⟩ := by kernel_rfl
theorem ty102 : tinfo Tryd.prog 102 = ⟨2, 32, [.int .i64 0, .nils], [.int .i64 0, .sl false 2 16 []], some (.agg [.int .i64 0, .nils]), .struct [(0, 1, false), (1, 1, false)]⟩ := by kernel_rfl
theorem ty103 : tinfo Tryd.prog 103 = ⟨1, 8, [.nilf], [.nilf], some (.nilf), .other⟩ := by kernel_rfl
theorem ty104 : tinfo Tryd.prog 104 = ⟨1, 8, [.nilf], [.nilf], some (.nilf), .other⟩ := by kernel_rfl
theorem ty105 : tinfo Tryd.prog 105 = ⟨1, 8, [.nilf], [.nilf], some (.nilf), .other⟩ := by kernel_rfl
theorem ty106 : tinfo Tryd.prog 106 = ⟨2, 40, [.str [], .nils], [.str [], .sl false 1 8 []], some (.agg [.str [], .nils]), .struct [(0, 1, false), (1, 1, false)]⟩ := by kernel_rfl
theorem ty107 : tinfo Tryd.prog 107 = ⟨2, 40, [.str [], .nils], [.str [], .sl false 1 8 []], some (.agg [.str [], .nils]), .struct [(0, 1, false), (1, 1, false)]⟩ := by kernel_rfl
theorem ty108 : tinfo Tryd.prog 108 = ⟨2, 16, [.int .i64 0, .int .i64 0], [.int .i64 0, .int .i64 0], some (.agg [.int .i64 0, .int .i64 0]), .struct [(0, 1, false), (1, 1, false)]⟩ := by kernel_rfl
theorem ty109 : tinfo Tryd.prog 109 = ⟨2, 16, [.int .i64 0, .int .i64 0], [.int .i64 0, .int .i64 0], some (.agg [.int .i64 0, .int .i64 0]), .struct [(0, 1, false), (1, 1, false)]⟩ := by kernel_rfl
theorem ty110 : tinfo Tryd.prog 110 = ⟨1, 8, [.nilf], [.nilf], some (.nilf), .other⟩ := by kernel_rfl
theorem ty111 : tinfo Tryd.prog 111 = ⟨1, 8, [.nilf], [.nilf], some (.nilf), .other⟩ := by kernel_rfl
theorem ty112 : tinfo Tryd.prog 112 = ⟨1, 8, [.nilf], [.nilf], some (.nilf), .other⟩ := by kernel_rfl
theorem ty113 : tinfo Tryd.prog 113 = ⟨1, 0, [.any], [.any], some (.any), .other⟩ := by kernel_rfl
theorem ty114 : tinfo Tryd.prog 114 = ⟨1, 8, [.nilf], [.nilf], some (.nilf), .other⟩ := by kernel_rfl
theorem ty115 : tinfo Tryd.prog 115 = ⟨1, 8, [.int .u64 0], [.int .u64 0], some (.int .u64 0), .int .u64⟩ := by kernel_rfl
theorem ty116 : tinfo Tryd.prog 116 = ⟨1, 8, [.nilf], [.nilf], some (.nilf), .other⟩ := by kernel_rfl
theorem ty117 : tinfo Tryd.prog 117 = ⟨1, 8, [.nilf], [.nilf], some (.nilf), .other⟩ := by kernel_rfl
theorem ty118 : tinfo Tryd.prog 118 = ⟨1, 8, [.nilf], [.nilf], some (.nilf), .other⟩ := by kernel_rfl
theorem ty119 : tinfo Tryd.prog 119 = ⟨1, 8, [.nilf], [.nilf], some (.nilf), .other⟩ := by kernel_rfl
theorem ty120 : tinfo Tryd.prog 120 = ⟨1, 8, [.nilf], [.nilf], some (.nilf), .other⟩ := by kernel_rfl
theorem ty121 : tinfo Tryd.prog 121 = ⟨1, 8, [.nilf], [.nilf], some (.nilf), .other⟩ := by kernel_rfl
theorem ty122 : tinfo Tryd.prog 122 = ⟨1, 8, [.nilf], [.nilf], some (.nilf), .other⟩ := by kernel_rfl
theorem ty123 : tinfo Tryd.prog 123 = ⟨1, 8, [.nilf], [.nilf], some (.nilf), .other⟩ := by kernel_rfl
theorem ty124 : tinfo Tryd.prog 124 = ⟨1, 8, [.nilf], [.nilf], some (.nilf), .other⟩ := by kernel_rfl
theorem ty125 : tinfo Tryd.prog 125 = ⟨1, 8, [.nilf], [.nilf], some (.nilf), .other⟩ := by kernel_rfl
theorem ty126 : tinfo Tryd.prog 126 = ⟨1, 8, [.nilf], [.nilf], some (.nilf), .other⟩ := by kernel_rfl
theorem ty127 : tinfo Tryd.prog 127 = ⟨1, 8, [.nilf], [.nilf], some (.nilf), .other⟩ := by kernel_rfl
theorem ty128 : tinfo Tryd.prog 128 = ⟨1, 8, [.nilf], [.nilf], some (.nilf), .other⟩ := by kernel_rfl
theorem ty129 : tinfo Tryd.prog 129 = ⟨1, 8, [.nilf], [.nilf], some (.nilf), .other⟩ := by kernel_rfl
theorem ty130 : tinfo Tryd.prog 130 = ⟨1, 8, [.nilf], [.nilf], some (.nilf), .other⟩ := by kernel_rfl
theorem ty131 : tinfo Tryd.prog 131 = ⟨1, 8, [.nilf], [.nilf], some (.nilf), .other⟩ := by kernel_rfl
theorem ty132 : tinfo Tryd.prog 132 = ⟨1, 8, [.nilf], [.nilf], some (.nilf), .other⟩ := by kernel_rfl
theorem ty133 : tinfo Tryd.prog 133 = ⟨1, 0, [.any], [.any], some (.any), .other⟩ := by kernel_rfl
theorem ty134 : tinfo Tryd.prog 134 = ⟨1, 8, [.nilf], [.nilf], some (.nilf), .other⟩ := by kernel_rfl
theorem ty135 : tinfo Tryd.prog 135 = ⟨1, 8, [.nilf], [.nilf], some (.nilf), .other⟩ := by kernel_rfl
theorem ty136 : tinfo Tryd.prog 136 = ⟨1, 8, [.nilf], [.nilf], some (.nilf), .other⟩ := by kernel_rfl
theorem ty137 : tinfo Tryd.prog 137 = ⟨1, 24, [.nils], [.sl false 1 1 []], some (.nils), .slice 4⟩ := by kernel_rfl
theorem ty138 : tinfo Tryd.prog 138 = ⟨1, 8, [.nilf], [.nilf], some (.nilf), .other⟩ := by kernel_rfl
theorem ty139 : tinfo Tryd.prog 139 = ⟨1, 8, [.int .u64 0], [.int .u64 0], some (.int .u64 0), .int .u64⟩ := by kernel_rfl
theorem ty140 : tinfo Tryd.prog 140 = ⟨1, 8, [.nilf], [.nilf], some (.nilf), .other⟩ := by kernel_rfl
theorem ty141 : tinfo Tryd.prog 141 = ⟨1, 8, [.nilf], [.nilf], some (.nilf), .other⟩ := by kernel_rfl
theorem ty142 : tinfo Tryd.prog 142 = ⟨1, 0, [.any], [.any], some (.any), .other⟩ := by kernel_rfl
theorem ty143 : tinfo Tryd.prog 143 = ⟨1, 8, [.nilf], [.nilf], some (.nilf), .other⟩ := by kernel_rfl
theorem ty144 : tinfo Tryd.prog 144 = ⟨64, 64, [.int .u8 0, .int .u8 0, .int .u8 0, .int .u8 0, .int .u8 0, .int .u8 0, .int .u8 0, .int .u8 0, .int .u8 0, .int .u8 0, .int .u8 0, .int .u8 0, .int .u8 0, .int .u8 0, .int .u8 0, .int .u8 0, .int .u8 0, .int .u8 0, .int .u8 0, .int .u8 0, .int .u8 0, .int .u8 0, .int .u8 0, .int .u8 0, .int .u8 0, .int .u8 0, .int .u8 0, .int .u8 0, .int .u8 0, .int .u8 0, .int .u8 0, .int .u8 0, .int .u8 0, .int .u8 0, .int .u8 0, .int .u8 0, .int .u8 0, .int .u8 0, .int .u8 0, .int .u8 0, .int .u8 0, .int .u8 0, .int .u8 0, .int .u8 0, .int .u8 0, .int .u8 0, .int .u8 0, .int .u8 0, .int .u8 0, .int .u8 0, .int .u8 0, .int .u8 0, .int .u8 0, .int .u8 0, .int .u8 0, .int .u8 0, .int .u8 0, .int .u8 0, .int .u8 0, .int .u8 0, .int .u8 0, .int .u8 0, .int .u8 0, .int .u8 0], [.int .u8 0, .int .u8 0, .int .u8 0, .int .u8 0, .int .u8 0, .int .u8 0, .int .u8 0, .int .u8 0, .int .u8 0, .int .u8 0, .int .u8 0, .int .u8 0, .int .u8 0, .int .u8 0, .int .u8 0, .int .u8 0, .int .u8 0, .int .u8 0, .int .u8 0, .int .u8 0, .int .u8 0, .int .u8 0, .int .u8 0, .int .u8 0, .int .u8 0, .int .u8 0, .int .u8 0, .int .u8 0, .int .u8 0, .int .u8 0, .int .u8 0, .int .u8 0, .int .u8 0, .int .u8 0, .int .u8 0, .int .u8 0, .int .u8 0, .int .u8 0, .int .u8 0, .int .u8 0, .int .u8 0, .int .u8 0, .int .u8 0, .int .u8 0, .int .u8 0, .int .u8 0, .int .u8 0, .int .u8 0, .int .u8 0, .int .u8 0, .int .u8 0, .int .u8 0, .int .u8 0, .int .u8 0, .int .u8 0, .int .u8 0, .int .u8 0, .int .u8 0, .int .u8 0, .int .u8 0, .int .u8 0, .int .u8 0, .int .u8 0, .int .u8 0], some (.agg [.int .u8 0, .int .u8 0, .int .u8 0, .int .u8 0, .int .u8 0, .int .u8 0, .int .u8 0, .int .u8 0, .int .u8 0, .int .u8 0, .int .u8 0, .int .u8 0, .int .u8 0, .int .u8 0, .int .u8 0, .int .u8 0, .int .u8 0, .int .u8 0, .int .u8 0, .int .u8 0, .int .u8 0, .int .u8 0, .int .u8 0, .int .u8 0, .int .u8 0, .int .u8 0, .int .u8 0, .int .u8 0, .int .u8 0, .int .u8 0, .int .u8 0, .int .u8 0, .int .u8 0, .int .u8 0, .int .u8 0, .int .u8 0, .int .u8 0, .int .u8 0, .int .u8 0, .int .u8 0, .int .u8 0, .int .u8 0, .int .u8 0, .int .u8 0, .int .u8 0, .int .u8 0, .int .u8 0, .int .u8 0, .int .u8 0, .int .u8 0, .int .u8 0, .int .u8 0, .int .u8 0, .int .u8 0, .int .u8 0, .int .u8 0, .int .u8 0, .int .u8 0, .int .u8 0, .int .u8 0, .int .u8 0, .int .u8 0, .int .u8 0, .int .u8 0]), .arr 64 5⟩ := by kernel_rfl
theorem ty145 : tinfo Tryd.prog 145 = ⟨1, 8, [.nilf], [.nilf], some (.nilf), .other⟩ := by kernel_rfl
theorem ty146 : tinfo Tryd.prog 146 = ⟨1, 8, [.nilf], [.nilf], some (.nilf), .other⟩ := by kernel_rfl
theorem ty147 : tinfo Tryd.prog 147 = ⟨1, 8, [.nilf], [.nilf], some (.nilf), .other⟩ := by kernel_rfl
theorem ty148 : tinfo Tryd.prog 148 = ⟨256, 256, (List.replicate 256 (.int .u8 0)), [], some (.agg (List.replicate 256 (.int .u8 0))), .arr 256 5⟩ := by kernel_rfl
theorem ty149 : tinfo Tryd.prog 149 = ⟨2, 2, [.int .u8 0, .int .u8 0], [.int .u8 0, .int .u8 0], some (.agg [.int .u8 0, .int .u8 0]), .struct [(0, 1, false), (1, 1, false)]⟩ := by kernel_rfl
theorem ty150 : tinfo Tryd.prog 150 = ⟨2, 2, [.int .u8 0, .int .u8 0], [.int .u8 0, .int .u8 0], some (.agg [.int .u8 0, .int .u8 0]), .struct [(0, 1, false), (1, 1, false)]⟩ := by kernel_rfl
theorem ty151 : tinfo Tryd.prog 151 = ⟨32, 32, [.int .u8 0, .int .u8 0, .int .u8 0, .int .u8 0, .int .u8 0, .int .u8 0, .int .u8 0, .int .u8 0, .int .u8 0, .int .u8 0, .int .u8 0, .int .u8 0, .int .u8 0, .int .u8 0, .int .u8 0, .int .u8 0, .int .u8 0, .int .u8 0, .int .u8 0, .int .u8 0, .int .u8 0, .int .u8 0, .int .u8 0, .int .u8 0, .int .u8 0, .int .u8 0, .int .u8 0, .int .u8 0, .int .u8 0, .int .u8 0, .int .u8 0, .int .u8 0], [.int .u8 0, .int .u8 0, .int .u8 0, .int .u8 0, .int .u8 0, .int .u8 0, .int .u8 0, .int .u8 0, .int .u8 0, .int .u8 0, .int .u8 0, .int .u8 0, .int .u8 0, .int .u8 0, .int .u8 0, .int .u8 0, .int .u8 0, .int .u8 0, .int .u8 0, .int .u8 0, .int .u8 0, .int .u8 0, .int .u8 0, .int .u8 0, .int .u8 0, .int .u8 0, .int .u8 0, .int .u8 0, .int .u8 0, .int .u8 0, .int .u8 0, .int .u8 0], some (.agg [.int .u8 0, .int .u8 0, .int .u8 0, .int .u8 0, .int .u8 0, .int .u8 0, .int .u8 0, .int .u8 0, .int .u8 0, .int .u8 0, .int .u8 0, .int .u8 0, .int .u8 0, .int .u8 0, .int .u8 0, .int .u8 0, .int .u8 0, .int .u8 0, .int .u8 0, .int .u8 0, .int .u8 0, .int .u8 0, .int .u8 0, .int .u8 0, .int .u8 0, .int .u8 0, .int .u8 0, .int .u8 0, .int .u8 0, .int .u8 0, .int .u8 0, .int .u8 0]), .arr 16 150⟩ := by kernel_rfl
theorem ty152 : tinfo Tryd.prog 152 = ⟨1, 8, [.nilf], [.nilf], some (.nilf), .other⟩ := by kernel_rfl
theorem ty153 : tinfo Tryd.prog 153 = ⟨1, 0, [.any], [.any], some (.any), .other⟩ := by kernel_rfl
theorem ty154 : tinfo Tryd.prog 154 = ⟨1, 8, [.nilf], [.nilf], some (.nilf), .other⟩ := by kernel_rfl
theorem ty155 : tinfo Tryd.prog 155 = ⟨1, 8, [.nilf], [.nilf], some (.nilf), .other⟩ := by kernel_rfl
theorem ty156 : tinfo Tryd.prog 156 = ⟨256, 256, (List.replicate 256 (.bool false)), [], some (.agg (List.replicate 256 (.bool false))), .arr 256 4⟩ := by kernel_rfl
theorem ty157 : tinfo Tryd.prog 157 = ⟨256, 256, (List.replicate 256 (.bool false)), [], some (.agg (List.replicate 256 (.bool false))), .arr 256 4⟩ := by kernel_rfl
theorem ty158 : tinfo Tryd.prog 158 = ⟨1, 0, [.any], [.any], some (.any), .other⟩ := by kernel_rfl
theorem ty159 : tinfo Tryd.prog 159 = ⟨1, 8, [.nilf], [.nilf], some (.nilf), .other⟩ := by kernel_rfl
theorem ty160 : tinfo Tryd.prog 160 = ⟨1, 8, [.nilf], [.nilf], some (.nilf), .other⟩ := by kernel_rfl
theorem ty161 : tinfo Tryd.prog 161 = ⟨1, 8, [.nilf], [.nilf], some (.nilf), .other⟩ := by kernel_rfl
theorem ty162 : tinfo Tryd.prog 162 = ⟨1, 8, [.nilf], [.nilf], some (.nilf), .other⟩ := by kernel_rfl
theorem ty163 : tinfo Tryd.prog 163 = ⟨1, 8, [.nilf], [.nilf], some (.nilf), .other⟩ := by kernel_rfl
theorem ty164 : tinfo Tryd.prog 164 = ⟨1, 8, [.nilp], [.nilp], some (.nilp), .ptr 157⟩ := by kernel_rfl
theorem ty165 : tinfo Tryd.prog 165 = ⟨1, 8, [.nilf], [.nilf], some (.nilf), .other⟩ := by kernel_rfl
theorem ty166 : tinfo Tryd.prog 166 = ⟨4, 40, [.nilp, .nilp, .nilp, .str []], [.nilp, .nilp, .nilp, .str []], some (.agg [.nilp, .nilp, .nilp, .str []]), .struct [(0, 1, false), (1, 1, false), (2, 1, false), (3, 1, false)]⟩ := by kernel_rfl
theorem ty167 : tinfo Tryd.prog 167 = ⟨4, 40, [.nilp, .nilp, .nilp, .str []], [.nilp, .nilp, .nilp, .str []], some (.agg [.nilp, .nilp, .nilp, .str []]), .struct [(0, 1, false), (1, 1, false), (2, 1, false), (3, 1, false)]⟩ := by kernel_rfl
theorem ty168 : tinfo Tryd.prog 168 = ⟨0, 0, [], [], some (.agg []), .arr 0 16⟩ := by kernel_rfl
theorem ty169 : tinfo Tryd.prog 169 = ⟨0, 0, [], [], some (.agg []), .struct [(0, 0, true)]⟩ := by kernel_rfl
theorem ty170 : tinfo Tryd.prog 170 = ⟨0, 0, [], [], some (.agg []), .struct [(0, 0, true)]⟩ := by kernel_rfl
theorem ty171 : tinfo Tryd.prog 171 = ⟨1, 8, [.nilf], [.nilf], some (.nilf), .other⟩ := by kernel_rfl
theorem ty172 : tinfo Tryd.prog 172 = ⟨1, 4, [.int .u32 0], [.int .u32 0], some (.int .u32 0), .int .u32⟩ := by kernel_rfl
theorem ty173 : tinfo Tryd.prog 173 = ⟨1, 1, [.int .u8 0], [.int .u8 0], some (.int .u8 0), .int .u8⟩ := by kernel_rfl
theorem ty174 : tinfo Tryd.prog 174 = ⟨1, 1, [.int .u8 0], [.int .u8 0], some (.int .u8 0), .int .u8⟩ := by kernel_rfl
theorem ty175 : tinfo Tryd.prog 175 = ⟨1, 8, [.nilf], [.nilf], some (.nilf), .other⟩ := by kernel_rfl
theorem ty176 : tinfo Tryd.prog 176 = ⟨1, 8, [.nilp], [.nilp], some (.nilp), .ptr 5⟩ := by kernel_rfl
theorem ty177 : tinfo Tryd.prog 177 = ⟨1, 4, [.int .i32 0], [.int .i32 0], some (.int .i32 0), .int .i32⟩ := by kernel_rfl
theorem ty178 : tinfo Tryd.prog 178 = ⟨1, 4, [.int .i32 0], [.int .i32 0], some (.int .i32 0), .int .i32⟩ := by kernel_rfl
theorem ty179 : tinfo Tryd.prog 179 = ⟨11, 48, [.int .u64 0, .int .u64 0, .int .u32 0, .int .u8 0, .int .u8 0, .int .u8 0, .int .u8 0, .nilf, .nilp, .int .i32 0, .int .i32 0], [.int .u64 0, .int .u64 0, .int .u32 0, .int .u8 0, .int .u8 0, .int .u8 0, .int .u8 0, .nilf, .nilp, .int .i32 0, .int .i32 0], some (.agg [.int .u64 0, .int .u64 0, .int .u32 0, .int .u8 0, .int .u8 0, .int .u8 0, .int .u8 0, .nilf, .nilp, .int .i32 0, .int .i32 0]), .struct [(0, 1, false), (1, 1, false), (2, 1, false), (3, 1, false), (4, 1, false), (5, 1, false), (6, 1, false), (7, 1, false), (8, 1, false), (9, 1, false), (10, 1, false)]⟩ := by kernel_rfl
theorem ty180 : tinfo Tryd.prog 180 = ⟨11, 48, [.int .u64 0, .int .u64 0, .int .u32 0, .int .u8 0, .int .u8 0, .int .u8 0, .int .u8 0, .nilf, .nilp, .int .i32 0, .int .i32 0], [.int .u64 0, .int .u64 0, .int .u32 0, .int .u8 0, .int .u8 0, .int .u8 0, .int .u8 0, .nilf, .nilp, .int .i32 0, .int .i32 0], some (.agg [.int .u64 0, .int .u64 0, .int .u32 0, .int .u8 0, .int .u8 0, .int .u8 0, .int .u8 0, .nilf, .nilp, .int .i32 0, .int .i32 0]), .struct [(0, 1, false), (1, 1, false), (2, 1, false), (3, 1, false), (4, 1, false), (5, 1, false), (6, 1, false), (7, 1, false), (8, 1, false), (9, 1, false), (10, 1, false)]⟩ := by kernel_rfl
theorem ty181 : tinfo Tryd.prog 181 = ⟨1, 8, [.nilp], [.nilp], some (.nilp), .other⟩ := by kernel_rfl
theorem fk7 : flatKinds Tryd.prog 7 = some [1, 1, 3, 1] := by kernel_rfl
theorem fk8 : flatKinds Tryd.prog 8 = some [1, 1, 3, 1] := by kernel_rfl
theorem fk24 : flatKinds Tryd.prog 24 = some [0, 0] := by kernel_rfl
theorem fk25 : flatKinds Tryd.prog 25 = some [0, 0] := by kernel_rfl
theorem fk29 : flatKinds Tryd.prog 29 = some [0] := by kernel_rfl
theorem fk30 : flatKinds Tryd.prog 30 = some [0] := by kernel_rfl
theorem fk35 : flatKinds Tryd.prog 35 = some [1, 1, 0] := by kernel_rfl
theorem fk36 : flatKinds Tryd.prog 36 = some [1, 1, 0] := by kernel_rfl
theorem fk38 : flatKinds Tryd.prog 38 = some [0, 0] := by kernel_rfl
theorem fk39 : flatKinds Tryd.prog 39 = some [0, 0] := by kernel_rfl
theorem fk40 : flatKinds Tryd.prog 40 = some [1, 1] := by kernel_rfl
theorem fk41 : flatKinds Tryd.prog 41 = some [1, 1] := by kernel_rfl
theorem fk48 : flatKinds Tryd.prog 48 = some [1, 1] := by kernel_rfl
theorem fk49 : flatKinds Tryd.prog 49 = some [1, 1] := by kernel_rfl
theorem fk62 : flatKinds Tryd.prog 62 = some [2, 0] := by kernel_rfl
theorem fk63 : flatKinds Tryd.prog 63 = some [2, 0] := by kernel_rfl
theorem fk68 : flatKinds Tryd.prog 68 = some [2, 1, 1] := by kernel_rfl
theorem fk69 : flatKinds Tryd.prog 69 = some [2, 1, 1] := by kernel_rfl
theorem fk75 : flatKinds Tryd.prog 75 = some [2, 0, 1, 1, 0] := by kernel_rfl
theorem fk76 : flatKinds Tryd.prog 76 = some [2, 0, 1, 1, 0] := by kernel_rfl
theorem fk78 : flatKinds Tryd.prog 78 = some [2, 0, 1, 0] := by kernel_rfl
theorem fk79 : flatKinds Tryd.prog 79 = some [2, 0, 1, 0] := by kernel_rfl
theorem fk90 : flatKinds Tryd.prog 90 = some [0, 0] := by kernel_rfl
theorem fk91 : flatKinds Tryd.prog 91 = some [0, 0] := by kernel_rfl
theorem fk101 : flatKinds Tryd.prog 101 = some [1, 0] := by kernel_rfl
theorem fk102 : flatKinds Tryd.prog 102 = some [1, 0] := by kernel_rfl
theorem fk106 : flatKinds Tryd.prog 106 = some [2, 0] := by kernel_rfl
theorem fk107 : flatKinds Tryd.prog 107 = some [2, 0] := by kernel_rfl
theorem fk108 : flatKinds Tryd.prog 108 = some [1, 1] := by kernel_rfl
theorem fk109 : flatKinds Tryd.prog 109 = some [1, 1] := by kernel_rfl
theorem fk149 : flatKinds Tryd.prog 149 = some [1, 1] := by kernel_rfl
theorem fk150 : flatKinds Tryd.prog 150 = some [1, 1] := by kernel_rfl
attribute [go_sem] ty0 ty1 ty2 ty3 ty4 ty5 ty6 ty7 ty8 ty9 ty10 ty11 ty12 ty13 ty14 ty15 ty16 ty17 ty18 ty19 ty20 ty21 ty22 ty23 ty24 ty25 ty26 ty27 ty28 ty29 ty30 ty31 ty32 ty33 ty34 ty35 ty36 ty37 ty38 ty39 ty40 ty41 ty42 ty43 ty44 ty45 ty46 ty47 ty48 ty49 ty50 ty51 ty52 ty53 ty54 ty55 ty56 ty57 ty58 ty59 ty60 ty61 ty62 ty63 ty64 ty65 ty66 ty67 ty68 ty69 ty70 ty71 ty72 ty73 ty74 ty75 ty76 ty77 ty78 ty79 ty80 ty81 ty82 ty83 ty84 ty85 ty86 ty87 ty88 ty89 ty90 ty91 ty92 ty93 ty94 ty95 ty96 ty97 ty98 ty99 ty100 ty101 ty102 ty103 ty104 ty105 ty106 ty107 ty108 ty109 ty110 ty111 ty112 ty113 ty114 ty115 ty116 ty117 ty118 ty119 ty120 ty121 ty122 ty123 ty124 ty125 ty126 ty127 ty128 ty129 ty130 ty131 ty132 ty133 ty134 ty135 ty136 ty137 ty138 ty139 ty140 ty141 ty142 ty143 ty144 ty145 ty146 ty147 ty148 ty149 ty150 ty151 ty152 ty153 ty154 ty155 ty156 ty157 ty158 ty159 ty160 ty161 ty162 ty163 ty164 ty165 ty166 ty167 ty168 ty169 ty170 ty171 ty172 ty173 ty174 ty175 ty176 ty177 ty178 ty179 ty180 ty181 fk7 fk8 fk24 fk25 fk29 fk30 fk35 fk36 fk38 fk39 fk40 fk41 fk48 fk49 fk62 fk63 fk68 fk69 fk75 fk76 fk78 fk79 fk90 fk91 fk101 fk102 fk106 fk107 fk108 fk109 fk149 fk150
end Go.Proofs.YtaohdfpcdfbnlaaDoor


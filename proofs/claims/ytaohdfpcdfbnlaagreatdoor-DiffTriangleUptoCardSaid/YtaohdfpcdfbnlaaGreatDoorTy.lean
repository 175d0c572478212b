import Derived.Test.YtaohdfpcdfbnlaaGreatDoorProg
import Derived.Test.YtaohdfpcdfbnlaaGreatDoorAm3
set_option linter.unusedVariables false
set_option linter.unusedSimpArgs false
namespace Go.Proofs.YtaohdfpcdfbnlaaGreatDoor
open Go Go.Am
theorem ty0 : w6 Tryz.prog 0 = ⟨1, 0, [.any], [.any], some (.any), .other⟩ := by kernel_rfl
theorem ty1 : w6 Tryz.prog 1 = ⟨1, 8, [.D2], [.D2], some (.D2), .other⟩ := by kernel_rfl
theorem ty2 : w6 Tryz.prog 2 = ⟨1, 8, [.int .i64 0], [.int .i64 0], some (.int .i64 0), .int .i64⟩ := by kernel_rfl
theorem ty3 : w6 Tryz.prog 3 = ⟨1, 8, [.int .i64 0], [.int .i64 0], some (.int .i64 0), .int .i64⟩ := by kernel_rfl
theorem ty4 : w6 Tryz.prog 4 = ⟨1, 1, [.bool false], [.bool false], some (.bool false), .bool⟩ := by kernel_rfl
theorem ty5 : w6 Tryz.prog 5 = ⟨1, 1, [.int .u8 0], [.int .u8 0], some (.int .u8 0), .int .u8⟩ := by kernel_rfl
theorem ty6 : w6 Tryz.prog 6 = ⟨1, 1, [.int .u8 0], [.int .u8 0], some (.int .u8 0), .int .u8⟩ := by kernel_rfl
theorem ty7 : w6 Tryz.prog 7 = ⟨4, 24, [.int .i64 0, .int .i64 0, .bool false, .int .u8 0], [.int .i64 0, .int .i64 0, .bool false, .int .u8 0], some (.agg [.int .i64 0, .int .i64 0, .bool false, .int .u8 0]), .struct [(0, 1, false), (1, 1, false), (2, 1, false), (3, 1, false)]⟩ := by kernel_rfl
theorem ty8 : w6 Tryz.prog 8 = ⟨4, 24, [.int .i64 0, .int .i64 0, .bool false, .int .u8 0], [.int .i64 0, .int .i64 0, .bool false, .int .u8 0], some (.agg [.int .i64 0, .int .i64 0, .bool false, .int .u8 0]), .struct [(0, 1, false), (1, 1, false), (2, 1, false), (3, 1, false)]⟩ := by kernel_rfl
theorem ty9 : w6 Tryz.prog 9 = ⟨1, 16, [.str []], [.str []], some (.str []), .str⟩ := by kernel_rfl
theorem MK : w6 Tryz.prog 10 = ⟨1, 16, [.str []], [.str []], some (.str []), .str⟩ := by kernel_rfl
theorem ML : w6 Tryz.prog 11 = ⟨1, 16, [.str []], [.str []], some (.str []), .str⟩ := by kernel_rfl
theorem MN : w6 Tryz.prog 12 = ⟨1, 8, [.int .u64 0], [.int .u64 0], some (.int .u64 0), .int .u64⟩ := by kernel_rfl
theorem MO : w6 Tryz.prog 13 = ⟨2, 24, [.str [], .int .u64 0], [.str [], .int .u64 0], some (.agg [.str [], .int .u64 0]), .struct [(0, 1, false), (1, 1, false)]⟩ := by kernel_rfl
theorem MP : w6 Tryz.prog 14 = ⟨2, 24, [.str [], .int .u64 0], [.str [], .int .u64 0], some (.agg [.str [], .int .u64 0]), .struct [(0, 1, false), (1, 1, false)]⟩ := by kernel_rfl
theorem MQ : w6 Tryz.prog 15 = ⟨1, 8, [.dD], [.dD], some (.dD), .ptr 190⟩ := by kernel_rfl
theorem MR : w6 Tryz.prog 16 = ⟨1, 8, [.dD], [.dD], some (.dD), .ptr 193⟩ := by kernel_rfl
theorem MS : w6 Tryz.prog 17 = ⟨1, 8, [.dD], [.dD], some (.dD), .ptr 203⟩ := by kernel_rfl
theorem MU : w6 Tryz.prog 18 = ⟨1, 8, [.dD], [.dD], some (.agg [.dD]), .struct [(0, 1, false)]⟩ := by kernel_rfl
theorem MV : w6 Tryz.prog 19 = ⟨1, 8, [.dD], [.dD], some (.agg [.dD]), .struct [(0, 1, false)]⟩ := by kernel_rfl
theorem MW : w6 Tryz.prog 20 = ⟨1, 16, [.any], [.any], some (.any), .other⟩ := by kernel_rfl
theorem MX : w6 Tryz.prog 21 = ⟨1, 4, [.int .i32 0], [.int .i32 0], some (.int .i32 0), .int .i32⟩ := by kernel_rfl
theorem MY : w6 Tryz.prog 22 = ⟨1, 24, [.B4], [.sl false 2 40 []], some (.B4), .slice 121⟩ := by kernel_rfl
theorem Kc : w6 Tryz.prog 23 = ⟨1, 24, [.B4], [.sl false 3 32 []], some (.B4), .slice 90⟩ := by kernel_rfl
theorem MZ : w6 Tryz.prog 24 = ⟨2, 48, [.B4, .B4], [.sl false 2 40 [], .sl false 3 32 []], some (.agg [.B4, .B4]), .struct [(0, 1, false), (1, 1, false)]⟩ := by kernel_rfl
theorem Na : w6 Tryz.prog 25 = ⟨2, 48, [.B4, .B4], [.sl false 2 40 [], .sl false 3 32 []], some (.agg [.B4, .B4]), .struct [(0, 1, false), (1, 1, false)]⟩ := by kernel_rfl
theorem Nb : w6 Tryz.prog 26 = ⟨1, 24, [.B4], [.sl false 10 152 []], some (.B4), .slice 66⟩ := by kernel_rfl
theorem Nc : w6 Tryz.prog 27 = ⟨1, 24, [.B4], [.sl false 9 144 []], some (.B4), .slice 76⟩ := by kernel_rfl
theorem Nd : w6 Tryz.prog 28 = ⟨1, 24, [.B4], [.sl false 2 32 []], some (.B4), .slice 130⟩ := by kernel_rfl
theorem Nf : w6 Tryz.prog 29 = ⟨1, 24, [.B4], [.sl false 2 32 []], some (.agg [.B4]), .struct [(0, 1, false)]⟩ := by kernel_rfl
theorem Ng : w6 Tryz.prog 30 = ⟨1, 24, [.B4], [.sl false 2 32 []], some (.agg [.B4]), .struct [(0, 1, false)]⟩ := by kernel_rfl
theorem Nh : w6 Tryz.prog 31 = ⟨5, 120, [.B4, .B4, .B4, .B4, .B4], [.sl false 2 40 [], .sl false 3 32 [], .sl false 10 152 [], .sl false 9 144 [], .sl false 2 32 []], some (.agg [.B4, .B4, .B4, .B4, .B4]), .struct [(0, 2, true), (2, 1, false), (3, 1, false), (4, 1, true)]⟩ := by kernel_rfl
theorem Ni : w6 Tryz.prog 32 = ⟨5, 120, [.B4, .B4, .B4, .B4, .B4], [.sl false 2 40 [], .sl false 3 32 [], .sl false 10 152 [], .sl false 9 144 [], .sl false 2 32 []], some (.agg [.B4, .B4, .B4, .B4, .B4]), .struct [(0, 2, true), (2, 1, false), (3, 1, false), (4, 1, true)]⟩ := by kernel_rfl
theorem Nj : w6 Tryz.prog 33 = ⟨1, 8, [.D2], [.D2], some (.D2), .other⟩ := by kernel_rfl
theorem Nk : w6 Tryz.prog 34 = ⟨1, 24, [.B4], [.sl false 2 48 []], some (.B4), .slice 25⟩ := by kernel_rfl
theorem Nl : w6 Tryz.prog 35 = ⟨1, 24, [.B4], [.sl false 1 24 []], some (.B4), .slice 30⟩ := by kernel_rfl
theorem Nn : w6 Tryz.prog 36 = ⟨1, 24, [.B4], [.sl false 3 40 []], some (.B4), .slice 71⟩ := by kernel_rfl
theorem Np : w6 Tryz.prog 37 = ⟨1, 24, [.B4], [.sl false 3 40 []], some (.B4), .slice 81⟩ := by kernel_rfl
theorem Nq : w6 Tryz.prog 38 = ⟨4, 96, [.B4, .B4, .B4, .B4], [.sl false 2 48 [], .sl false 1 24 [], .sl false 3 40 [], .sl false 3 40 []], some (.agg [.B4, .B4, .B4, .B4]), .struct [(0, 1, false), (1, 1, false), (2, 1, false), (3, 1, false)]⟩ := by kernel_rfl
theorem Nr : w6 Tryz.prog 39 = ⟨4, 96, [.B4, .B4, .B4, .B4], [.sl false 2 48 [], .sl false 1 24 [], .sl false 3 40 [], .sl false 3 40 []], some (.agg [.B4, .B4, .B4, .B4]), .struct [(0, 1, false), (1, 1, false), (2, 1, false), (3, 1, false)]⟩ := by kernel_rfl
theorem Ns : w6 Tryz.prog 40 = ⟨2, 16, [.int .i64 0, .int .i64 0], [.int .i64 0, .int .i64 0], some (.agg [.int .i64 0, .int .i64 0]), .struct [(0, 1, false), (1, 1, false)]⟩ := by kernel_rfl
theorem Nt : w6 Tryz.prog 41 = ⟨2, 16, [.int .i64 0, .int .i64 0], [.int .i64 0, .int .i64 0], some (.agg [.int .i64 0, .int .i64 0]), .struct [(0, 1, false), (1, 1, false)]⟩ := by kernel_rfl
theorem Nu : w6 Tryz.prog 42 = ⟨1, 0, [.any], [.any], some (.any), .other⟩ := by kernel_rfl
theorem Nv : w6 Tryz.prog 43 = ⟨1, 8, [.D2], [.D2], some (.D2), .other⟩ := by kernel_rfl
theorem Nw : w6 Tryz.prog 44 = ⟨1, 0, [.any], [.any], some (.any), .other⟩ := by kernel_rfl
theorem Nx : w6 Tryz.prog 45 = ⟨1, 8, [.D2], [.D2], some (.D2), .other⟩ := by kernel_rfl
theorem Ny : w6 Tryz.prog 46 = ⟨1, 8, [.D2], [.D2], some (.D2), .other⟩ := by kernel_rfl
theorem Nz : w6 Tryz.prog 47 = ⟨1, 8, [.D2], [.D2], some (.D2), .other⟩ := by kernel_rfl
theorem NA : w6 Tryz.prog 48 = ⟨1, 8, [.D2], [.D2], some (.D2), .other⟩ := by kernel_rfl
theorem NC : w6 Tryz.prog 49 = ⟨1, 0, [.any], [.any], some (.any), .other⟩ := by kernel_rfl
theorem ND : w6 Tryz.prog 50 = ⟨1, 8, [.D2], [.D2], some (.D2), .other⟩ := by kernel_rfl
theorem NG : w6 Tryz.prog 51 = ⟨1, 24, [.B4], [.sl false 5 120 []], some (.B4), .slice 32⟩ := by kernel_rfl
theorem NH : w6 Tryz.prog 52 = ⟨1, 8, [.D2], [.D2], some (.D2), .other⟩ := by kernel_rfl
theorem NI : w6 Tryz.prog 53 = ⟨1, 8, [.D2], [.D2], some (.D2), .other⟩ := by kernel_rfl
theorem NJ : w6 Tryz.prog 54 = ⟨1, 8, [.D2], [.D2], some (.D2), .other⟩ := by kernel_rfl
theorem NK : w6 Tryz.prog 55 = ⟨1, 8, [.D2], [.D2], some (.D2), .other⟩ := by kernel_rfl
theorem NM : w6 Tryz.prog 56 = ⟨1, 8, [.D2], [.D2], some (.D2), .other⟩ := by kernel_rfl
theorem NP : w6 Tryz.prog 57 = ⟨1, 24, [.B4], [.sl false 3 40 []], some (.B4), .slice 69⟩ := by kernel_rfl
theorem NQ : w6 Tryz.prog 58 = ⟨1, 8, [.D2], [.D2], some (.D2), .other⟩ := by kernel_rfl
theorem NR : w6 Tryz.prog 59 = ⟨1, 24, [.B4], [.sl false 2 40 []], some (.B4), .slice 61⟩ := by kernel_rfl
theorem NS : w6 Tryz.prog 60 = ⟨2, 40, [.str [], .B4], [.str [], .sl false 2 40 []], some (.agg [.str [], .B4]), .struct [(0, 1, false), (1, 1, false)]⟩ := by kernel_rfl
theorem NT : w6 Tryz.prog 61 = ⟨2, 40, [.str [], .B4], [.str [], .sl false 2 40 []], some (.agg [.str [], .B4]), .struct [(0, 1, false), (1, 1, false)]⟩ := by kernel_rfl
theorem NU : w6 Tryz.prog 62 = ⟨1, 24, [.B4], [.sl false 6 96 []], some (.B4), .slice 64⟩ := by kernel_rfl
theorem NV : w6 Tryz.prog 63 = ⟨6, 96, [.int .i64 0, .str [], .int .i64 0, .str [], .B4, .B4], [.int .i64 0, .str [], .int .i64 0, .str [], .sl false 2 40 [], .sl false 6 96 []], some (.agg [.int .i64 0, .str [], .int .i64 0, .str [], .B4, .B4]), .struct [(0, 1, false), (1, 1, false), (2, 1, false), (3, 2, true), (5, 1, false)]⟩ := by kernel_rfl
theorem NW : w6 Tryz.prog 64 = ⟨6, 96, [.int .i64 0, .str [], .int .i64 0, .str [], .B4, .B4], [.int .i64 0, .str [], .int .i64 0, .str [], .sl false 2 40 [], .sl false 6 96 []], some (.agg [.int .i64 0, .str [], .int .i64 0, .str [], .B4, .B4]), .struct [(0, 1, false), (1, 1, false), (2, 1, false), (3, 2, true), (5, 1, false)]⟩ := by kernel_rfl
theorem NX : w6 Tryz.prog 65 = ⟨10, 152, [.str [], .B4, .int .i64 0, .int .i64 0, .int .i64 0, .str [], .int .i64 0, .str [], .B4, .B4], [.str [], .sl false 2 32 [], .int .i64 0, .int .i64 0, .int .i64 0, .str [], .int .i64 0, .str [], .sl false 2 40 [], .sl false 6 96 []], some (.agg [.str [], .B4, .int .i64 0, .int .i64 0, .int .i64 0, .str [], .int .i64 0, .str [], .B4, .B4]), .struct [(0, 1, false), (1, 1, true), (2, 1, false), (3, 1, false), (4, 6, true)]⟩ := by kernel_rfl
theorem NY : w6 Tryz.prog 66 = ⟨10, 152, [.str [], .B4, .int .i64 0, .int .i64 0, .int .i64 0, .str [], .int .i64 0, .str [], .B4, .B4], [.str [], .sl false 2 32 [], .int .i64 0, .int .i64 0, .int .i64 0, .str [], .int .i64 0, .str [], .sl false 2 40 [], .sl false 6 96 []], some (.agg [.str [], .B4, .int .i64 0, .int .i64 0, .int .i64 0, .str [], .int .i64 0, .str [], .B4, .B4]), .struct [(0, 1, false), (1, 1, true), (2, 1, false), (3, 1, false), (4, 6, true)]⟩ := by kernel_rfl
theorem NZ : w6 Tryz.prog 67 = ⟨1, 8, [.D2], [.D2], some (.D2), .other⟩ := by kernel_rfl
theorem Oa : w6 Tryz.prog 68 = ⟨3, 40, [.int .i64 0, .int .i64 0, .B4], [.int .i64 0, .int .i64 0, .sl false 10 152 []], some (.agg [.int .i64 0, .int .i64 0, .B4]), .struct [(0, 1, false), (1, 1, false), (2, 1, false)]⟩ := by kernel_rfl
theorem Oc : w6 Tryz.prog 69 = ⟨3, 40, [.int .i64 0, .int .i64 0, .B4], [.int .i64 0, .int .i64 0, .sl false 10 152 []], some (.agg [.int .i64 0, .int .i64 0, .B4]), .struct [(0, 1, false), (1, 1, false), (2, 1, false)]⟩ := by kernel_rfl
theorem Od : w6 Tryz.prog 70 = ⟨3, 40, [.int .i64 0, .int .i64 0, .B4], [.int .i64 0, .int .i64 0, .sl false 10 152 []], some (.agg [.int .i64 0, .int .i64 0, .B4]), .struct [(0, 1, false), (1, 1, false), (2, 1, false)]⟩ := by kernel_rfl
theorem Oe : w6 Tryz.prog 71 = ⟨3, 40, [.int .i64 0, .int .i64 0, .B4], [.int .i64 0, .int .i64 0, .sl false 10 152 []], some (.agg [.int .i64 0, .int .i64 0, .B4]), .struct [(0, 1, false), (1, 1, false), (2, 1, false)]⟩ := by kernel_rfl
theorem Og : w6 Tryz.prog 72 = ⟨1, 8, [.D2], [.D2], some (.D2), .other⟩ := by kernel_rfl
theorem Oh : w6 Tryz.prog 73 = ⟨1, 24, [.B4], [.sl false 3 40 []], some (.B4), .slice 79⟩ := by kernel_rfl
theorem Oi : w6 Tryz.prog 74 = ⟨1, 8, [.D2], [.D2], some (.D2), .other⟩ := by kernel_rfl
theorem Oj : w6 Tryz.prog 75 = ⟨9, 144, [.str [], .B4, .int .i64 0, .int .i64 0, .str [], .int .i64 0, .str [], .B4, .B4], [.str [], .sl false 2 32 [], .int .i64 0, .int .i64 0, .str [], .int .i64 0, .str [], .sl false 2 40 [], .sl false 6 96 []], some (.agg [.str [], .B4, .int .i64 0, .int .i64 0, .str [], .int .i64 0, .str [], .B4, .B4]), .struct [(0, 1, false), (1, 1, true), (2, 1, false), (3, 6, true)]⟩ := by kernel_rfl
theorem Ol : w6 Tryz.prog 76 = ⟨9, 144, [.str [], .B4, .int .i64 0, .int .i64 0, .str [], .int .i64 0, .str [], .B4, .B4], [.str [], .sl false 2 32 [], .int .i64 0, .int .i64 0, .str [], .int .i64 0, .str [], .sl false 2 40 [], .sl false 6 96 []], some (.agg [.str [], .B4, .int .i64 0, .int .i64 0, .str [], .int .i64 0, .str [], .B4, .B4]), .struct [(0, 1, false), (1, 1, true), (2, 1, false), (3, 6, true)]⟩ := by kernel_rfl
theorem Om : w6 Tryz.prog 77 = ⟨1, 8, [.D2], [.D2], some (.D2), .other⟩ := by kernel_rfl
theorem Oo : w6 Tryz.prog 78 = ⟨3, 40, [.int .i64 0, .int .i64 0, .B4], [.int .i64 0, .int .i64 0, .sl false 9 144 []], some (.agg [.int .i64 0, .int .i64 0, .B4]), .struct [(0, 1, false), (1, 1, false), (2, 1, false)]⟩ := by kernel_rfl
theorem Oq : w6 Tryz.prog 79 = ⟨3, 40, [.int .i64 0, .int .i64 0, .B4], [.int .i64 0, .int .i64 0, .sl false 9 144 []], some (.agg [.int .i64 0, .int .i64 0, .B4]), .struct [(0, 1, false), (1, 1, false), (2, 1, false)]⟩ := by kernel_rfl
theorem Ot : w6 Tryz.prog 80 = ⟨3, 40, [.int .i64 0, .int .i64 0, .B4], [.int .i64 0, .int .i64 0, .sl false 9 144 []], some (.agg [.int .i64 0, .int .i64 0, .B4]), .struct [(0, 1, false), (1, 1, false), (2, 1, false)]⟩ := by kernel_rfl
theorem Ou : w6 Tryz.prog 81 = ⟨3, 40, [.int .i64 0, .int .i64 0, .B4], [.int .i64 0, .int .i64 0, .sl false 9 144 []], some (.agg [.int .i64 0, .int .i64 0, .B4]), .struct [(0, 1, false), (1, 1, false), (2, 1, false)]⟩ := by kernel_rfl
theorem Ov : w6 Tryz.prog 82 = ⟨1, 8, [.D2], [.D2], some (.D2), .other⟩ := by kernel_rfl
theorem Ow : w6 Tryz.prog 83 = ⟨1, 8, [.D2], [.D2], some (.D2), .other⟩ := by kernel_rfl
theorem Ox : w6 Tryz.prog 84 = ⟨1, 8, [.D2], [.D2], some (.D2), .other⟩ := by kernel_rfl
theorem Oy : w6 Tryz.prog 85 = ⟨1, 8, [.D2], [.D2], some (.D2), .other⟩ := by kernel_rfl
theorem Oz : w6 Tryz.prog 86 = ⟨1, 8, [.D2], [.D2], some (.D2), .other⟩ := by kernel_rfl
theorem OA : w6 Tryz.prog 87 = ⟨1, 24, [.B4], [.sl false 1 16 []], some (.B4), .slice 9⟩ := by kernel_rfl
theorem Kd : w6 Tryz.prog 88 = ⟨1, 24, [.B4], [.sl false 1 8 []], some (.B4), .slice 3⟩ := by kernel_rfl
theorem OB : w6 Tryz.prog 89 = ⟨3, 32, [.str [], .int .i64 0, .int .i64 0], [.str [], .int .i64 0, .int .i64 0], some (.agg [.str [], .int .i64 0, .int .i64 0]), .struct [(0, 1, false), (1, 1, false), (2, 1, false)]⟩ := by kernel_rfl
theorem OC : w6 Tryz.prog 90 = ⟨3, 32, [.str [], .int .i64 0, .int .i64 0], [.str [], .int .i64 0, .int .i64 0], some (.agg [.str [], .int .i64 0, .int .i64 0]), .struct [(0, 1, false), (1, 1, false), (2, 1, false)]⟩ := by kernel_rfl
theorem OD : w6 Tryz.prog 91 = ⟨1, 8, [.D2], [.D2], some (.D2), .other⟩ := by kernel_rfl
theorem OE : w6 Tryz.prog 92 = ⟨1, 8, [.D2], [.D2], some (.D2), .other⟩ := by kernel_rfl
theorem OG : w6 Tryz.prog 93 = ⟨1, 24, [.B4], [.sl false 1 24 []], some (.B4), .slice 88⟩ := by kernel_rfl
theorem OH : w6 Tryz.prog 94 = ⟨1, 8, [.D2], [.D2], some (.D2), .other⟩ := by kernel_rfl
theorem OI : w6 Tryz.prog 95 = ⟨1, 8, [.D2], [.D2], some (.D2), .other⟩ := by kernel_rfl
theorem OJ : w6 Tryz.prog 96 = ⟨1, 8, [.D2], [.D2], some (.D2), .other⟩ := by kernel_rfl
theorem OL : w6 Tryz.prog 97 = ⟨1, 8, [.D2], [.D2], some (.D2), .other⟩ := by kernel_rfl
theorem OM : w6 Tryz.prog 98 = ⟨1, 8, [.D2], [.D2], some (.D2), .other⟩ := by kernel_rfl
theorem OO : w6 Tryz.prog 99 = ⟨1, 8, [.D2], [.D2], some (.D2), .other⟩ := by kernel_rfl
theorem Ke : w6 Tryz.prog 100 = ⟨1, 0, [.any], [.any], some (.any), .other⟩ := by kernel_rfl
theorem Kf : w6 Tryz.prog 101 = ⟨1, 8, [.D2], [.D2], some (.D2), .other⟩ := by kernel_rfl
theorem Kg : w6 Tryz.prog 102 = ⟨1, 0, [.any], [.any], some (.any), .other⟩ := by kernel_rfl
theorem Kh : w6 Tryz.prog 103 = ⟨1, 8, [.D2], [.D2], some (.D2), .other⟩ := by kernel_rfl
theorem Ki : w6 Tryz.prog 104 = ⟨1, 8, [.D2], [.D2], some (.D2), .other⟩ := by kernel_rfl
theorem Kj : w6 Tryz.prog 105 = ⟨1, 8, [.D2], [.D2], some (.D2), .other⟩ := by kernel_rfl
theorem Kk : w6 Tryz.prog 106 = ⟨1, 8, [.D2], [.D2], some (.D2), .other⟩ := by kernel_rfl
theorem Kl : w6 Tryz.prog 107 = ⟨1, 8, [.D2], [.D2], some (.D2), .other⟩ := by kernel_rfl
theorem Km : w6 Tryz.prog 108 = ⟨1, 8, [.D2], [.D2], some (.D2), .other⟩ := by kernel_rfl
theorem Kn : w6 Tryz.prog 109 = ⟨1, 24, [.B4], [.sl false 1 8 []], some (.B4), .slice 143⟩ := by kernel_rfl
theorem Ko : w6 Tryz.prog 110 = ⟨2, 48, [.B4, .B4], [.sl false 1 8 [], .sl false 1 8 []], some (.agg [.B4, .B4]), .struct [(0, 1, false), (1, 1, false)]⟩ := by kernel_rfl
theorem Kp : w6 Tryz.prog 111 = ⟨2, 48, [.B4, .B4], [.sl false 1 8 [], .sl false 1 8 []], some (.agg [.B4, .B4]), .struct [(0, 1, false), (1, 1, false)]⟩ := by kernel_rfl
theorem Kq : w6 Tryz.prog 112 = ⟨1, 8, [.D2], [.D2], some (.D2), .other⟩ := by kernel_rfl
theorem Kr : w6 Tryz.prog 113 = ⟨1, 8, [.wM], [.wM], some (.wM), .map 9 3⟩ := by kernel_rfl
theorem Ks : w6 Tryz.prog 114 = ⟨1, 8, [.D2], [.D2], some (.D2), .other⟩ := by kernel_rfl
theorem Kt : w6 Tryz.prog 115 = ⟨1, 0, [.any], [.any], some (.any), .other⟩ := by kernel_rfl
theorem Ku : w6 Tryz.prog 116 = ⟨1, 8, [.D2], [.D2], some (.D2), .other⟩ := by kernel_rfl
theorem Kv : w6 Tryz.prog 117 = ⟨1, 8, [.D2], [.D2], some (.D2), .other⟩ := by kernel_rfl
theorem Kw : w6 Tryz.prog 118 = ⟨1, 8, [.D2], [.D2], some (.D2), .other⟩ := by kernel_rfl
theorem Kx : w6 Tryz.prog 119 = ⟨1, 8, [.D2], [.D2], some (.D2), .other⟩ := by kernel_rfl
theorem Ky : w6 Tryz.prog 120 = ⟨2, 40, [.str [], .B4], [.str [], .sl false 1 8 []], some (.agg [.str [], .B4]), .struct [(0, 1, false), (1, 1, false)]⟩ := by kernel_rfl
theorem Kz : w6 Tryz.prog 121 = ⟨2, 40, [.str [], .B4], [.str [], .sl false 1 8 []], some (.agg [.str [], .B4]), .struct [(0, 1, false), (1, 1, false)]⟩ := by kernel_rfl
theorem KA : w6 Tryz.prog 122 = ⟨1, 8, [.D2], [.D2], some (.D2), .other⟩ := by kernel_rfl
theorem KB : w6 Tryz.prog 123 = ⟨1, 8, [.D2], [.D2], some (.D2), .other⟩ := by kernel_rfl
theorem KC : w6 Tryz.prog 124 = ⟨1, 8, [.D2], [.D2], some (.D2), .other⟩ := by kernel_rfl
theorem KD : w6 Tryz.prog 125 = ⟨1, 8, [.D2], [.D2], some (.D2), .other⟩ := by kernel_rfl
theorem KE : w6 Tryz.prog 126 = ⟨1, 8, [.D2], [.D2], some (.D2), .other⟩ := by kernel_rfl
theorem KF : w6 Tryz.prog 127 = ⟨1, 8, [.D2], [.D2], some (.D2), .other⟩ := by kernel_rfl
theorem Iv : w6 Tryz.prog 128 = ⟨1, 24, [.B4], [.sl false 2 16 []], some (.B4), .slice 133⟩ := by kernel_rfl
theorem KG : w6 Tryz.prog 129 = ⟨2, 32, [.int .i64 0, .B4], [.int .i64 0, .sl false 2 16 []], some (.agg [.int .i64 0, .B4]), .struct [(0, 1, false), (1, 1, false)]⟩ := by kernel_rfl
theorem KH : w6 Tryz.prog 130 = ⟨2, 32, [.int .i64 0, .B4], [.int .i64 0, .sl false 2 16 []], some (.agg [.int .i64 0, .B4]), .struct [(0, 1, false), (1, 1, false)]⟩ := by kernel_rfl
theorem KI : w6 Tryz.prog 131 = ⟨1, 8, [.D2], [.D2], some (.D2), .other⟩ := by kernel_rfl
theorem KJ : w6 Tryz.prog 132 = ⟨2, 16, [.int .i64 0, .int .i64 0], [.int .i64 0, .int .i64 0], some (.agg [.int .i64 0, .int .i64 0]), .struct [(0, 1, false), (1, 1, false)]⟩ := by kernel_rfl
theorem KL : w6 Tryz.prog 133 = ⟨2, 16, [.int .i64 0, .int .i64 0], [.int .i64 0, .int .i64 0], some (.agg [.int .i64 0, .int .i64 0]), .struct [(0, 1, false), (1, 1, false)]⟩ := by kernel_rfl
theorem KM : w6 Tryz.prog 134 = ⟨1, 8, [.D2], [.D2], some (.D2), .other⟩ := by kernel_rfl
theorem KN : w6 Tryz.prog 135 = ⟨1, 8, [.D2], [.D2], some (.D2), .other⟩ := by kernel_rfl
theorem KO : w6 Tryz.prog 136 = ⟨1, 8, [.D2], [.D2], some (.D2), .other⟩ := by kernel_rfl
theorem KP : w6 Tryz.prog 137 = ⟨1, 8, [.D2], [.D2], some (.D2), .other⟩ := by kernel_rfl
theorem KQ : w6 Tryz.prog 138 = ⟨1, 8, [.D2], [.D2], some (.D2), .other⟩ := by kernel_rfl
theorem KR : w6 Tryz.prog 139 = ⟨1, 8, [.D2], [.D2], some (.D2), .other⟩ := by kernel_rfl
theorem KS : w6 Tryz.prog 140 = ⟨1, 8, [.D2], [.D2], some (.D2), .other⟩ := by kernel_rfl
theorem KT : w6 Tryz.prog 141 = ⟨1, 0, [.any], [.any], some (.any), .other⟩ := by kernel_rfl
theorem KU : w6 Tryz.prog 142 = ⟨1, 8, [.D2], [.D2], some (.D2), .other⟩ := by kernel_rfl
theorem KV : w6 Tryz.prog 143 = ⟨1, 8, [.int .u64 0], [.int .u64 0], some (.int .u64 0), .int .u64⟩ := by kernel_rfl
theorem KW : w6 Tryz.prog 144 = ⟨1, 8, [.D2], [.D2], some (.D2), .other⟩ := by kernel_rfl
theorem KX : w6 Tryz.prog 145 = ⟨1, 8, [.D2], [.D2], some (.D2), .other⟩ := by kernel_rfl
theorem KY : w6 Tryz.prog 146 = ⟨1, 8, [.D2], [.D2], some (.D2), .other⟩ := by kernel_rfl
theorem KZ : w6 Tryz.prog 147 = ⟨1, 8, [.D2], [.D2], some (.D2), .other⟩ := by kernel_rfl
theorem La : w6 Tryz.prog 148 = ⟨1, 8, [.D2], [.D2], some (.D2), .other⟩ := by kernel_rfl
theorem Lb : w6 Tryz.prog 149 = ⟨1, 8, [.D2], [.D2], some (.D2), .other⟩ := by kernel_rfl
theorem Lc : w6 Tryz.prog 150 = ⟨1, 8, [.D2], [.D2], some (.D2), .other⟩ := by kernel_rfl
theorem Ld : w6 Tryz.prog 151 = ⟨1, 8, [.D2], [.D2], some (.D2), .other⟩ := by kernel_rfl
theorem Le : w6 Tryz.prog 152 = ⟨1, 8, [.D2], [.D2], some (.D2), .other⟩ := by kernel_rfl
theorem Lf : w6 Tryz.prog 153 = ⟨1, 8, [.D2], [.D2], some (.D2), .other⟩ := by kernel_rfl
theorem Lg : w6 Tryz.prog 154 = ⟨1, 8, [.D2], [.D2], some (.D2), .other⟩ := by kernel_rfl
theorem Lh : w6 Tryz.prog 155 = ⟨1, 8, [.D2], [.D2], some (.D2), .other⟩ := by kernel_rfl
theorem Li : w6 Tryz.prog 156 = ⟨1, 8, [.D2], [.D2], some (.D2), .other⟩ := by kernel_rfl
theorem Lj : w6 Tryz.prog 157 = ⟨1, 8, [.D2], [.D2], some (.D2), .other⟩ := by kernel_rfl
theorem Lk : w6 Tryz.prog 158 = ⟨1, 0, [.any], [.any], some (.any), .other⟩ := by kernel_rfl
theorem Ll : w6 Tryz.prog 159 = ⟨1, 8, [.D2], [.D2], some (.D2), .other⟩ := by kernel_rfl
theorem Lm : w6 Tryz.prog 160 = ⟨1, 8, [.D2], [.D2], some (.D2), .other⟩ := by kernel_rfl
theorem Ln : w6 Tryz.prog 161 = ⟨1, 8, [.D2], [.D2], some (.D2), .other⟩ := by kernel_rfl
theorem Lo : w6 Tryz.prog 162 = ⟨1, 24, [.B4], [.sl false 1 1 []], some (.B4), .slice 4⟩ := by kernel_rfl
theorem Lp : w6 Tryz.prog 163 = ⟨1, 8, [.D2], [.D2], some (.D2), .other⟩ := by kernel_rfl
theorem Lq : w6 Tryz.prog 164 = ⟨1, 8, [.D2], [.D2], some (.D2), .other⟩ := by kernel_rfl
theorem Lr : w6 Tryz.prog 165 = ⟨64, 64, [.int .u8 0, .int .u8 0, .int .u8 0, .int .u8 0, .int .u8 0, .int .u8 0, .int .u8 0, .int .u8 0, .int .u8 0, .int .u8 0, .int .u8 0, .int .u8 0, .int .u8 0, .int .u8 0, .int .u8 0, .int .u8 0, .int .u8 0, .int .u8 0, .int .u8 0, .int .u8 0, .int .u8 0, .int .u8 0, .int .u8 0, .int .u8 0, .int .u8 0, .int .u8 0, .int .u8 0, .int .u8 0, .int .u8 0, .int .u8 0, .int .u8 0, .int .u8 0, .int .u8 0, .int .u8 0, .int .u8 0, .int .u8 0, .int .u8 0, .int .u8 0, .int .u8 0, .int .u8 0, .int .u8 0, .int .u8 0, .int .u8 0, .int .u8 0, .int .u8 0, .int .u8 0, .int .u8 0, .int .u8 0, .int .u8 0, .int .u8 0, .int .u8 0, .int .u8 0, .int .u8 0, .int .u8 0, .int .u8 0, .int .u8 0, .int .u8 0, .int .u8 0, .int .u8 0, .int .u8 0, .int .u8 0, .int .u8 0, .int .u8 0, .int .u8 0], [.int .u8 0, .int .u8 0, .int .u8 0, .int .u8 0, .int .u8 0, .int .u8 0, .int .u8 0, .int .u8 0, .int .u8 0, .int .u8 0, .int .u8 0, .int .u8 0, .int .u8 0, .int .u8 0, .int .u8 0, .int .u8 0, .int .u8 0, .int .u8 0, .int .u8 0, .int .u8 0, .int .u8 0, .int .u8 0, .int .u8 0, .int .u8 0, .int .u8 0, .int .u8 0, .int .u8 0, .int .u8 0, .int .u8 0, .int .u8 0, .int .u8 0, .int .u8 0, .int .u8 0, .int .u8 0, .int .u8 0, .int .u8 0, .int .u8 0, .int .u8 0, .int .u8 0, .int .u8 0, .int .u8 0, .int .u8 0, .int .u8 0, .int .u8 0, .int .u8 0, .int .u8 0, .int .u8 0, .int .u8 0, .int .u8 0, .int .u8 0, .int .u8 0, .int .u8 0, .int .u8 0, .int .u8 0, .int .u8 0, .int .u8 0, .int .u8 0, .int .u8 0, .int .u8 0, .int .u8 0, .int .u8 0, .int .u8 0, .int .u8 0, .int .u8 0], some (.agg [.int .u8 0, .int .u8 0, .int .u8 0, .int .u8 0, .int .u8 0, .int .u8 0, .int .u8 0, .int .u8 0, .int .u8 0, .int .u8 0, .int .u8 0, .int .u8 0, .int .u8 0, .int .u8 0, .int .u8 0, .int .u8 0, .int .u8 0, .int .u8 0, .int .u8 0, .int .u8 0, .int .u8 0, .int .u8 0, .int .u8 0, .int .u8 0, .int .u8 0, .int .u8 0, .int .u8 0, .int .u8 0, .int .u8 0, .int .u8 0, .int .u8 0, .int .u8 0, .int .u8 0, .int .u8 0, .int .u8 0, .int .u8 0, .int .u8 0, .int .u8 0, .int .u8 0, .int .u8 0, .int .u8 0, .int .u8 0, .int .u8 0, .int .u8 0, .int .u8 0, .int .u8 0, .int .u8 0, .int .u8 0, .int .u8 0, .int .u8 0, .int .u8 0, .int .u8 0, .int .u8 0, .int .u8 0, .int .u8 0, .int .u8 0, .int .u8 0, .int .u8 0, .int .u8 0, .int .u8 0, .int .u8 0, .int .u8 0, .int .u8 0, .int .u8 0]), .arr 64 5⟩ := by kernel_rfl
theorem Ls : w6 Tryz.prog 166 = ⟨1, 8, [.int .u64 0], [.int .u64 0], some (.int .u64 0), .int .u64⟩ := by kernel_rfl
theorem Lu : w6 Tryz.prog 167 = ⟨1, 8, [.D2], [.D2], some (.D2), .other⟩ := by kernel_rfl
theorem Lv : w6 Tryz.prog 168 = ⟨1, 8, [.D2], [.D2], some (.D2), .other⟩ := by kernel_rfl
theorem Lw : w6 Tryz.prog 169 = ⟨1, 8, [.D2], [.D2], some (.D2), .other⟩ := by kernel_rfl
theorem Lx : w6 Tryz.prog 170 = ⟨1, 8, [.D2], [.D2], some (.D2), .other⟩ := by kernel_rfl
theorem Ly : w6 Tryz.prog 171 = ⟨1, 8, [.D2], [.D2], some (.D2), .other⟩ := by kernel_rfl
theorem Lz : w6 Tryz.prog 172 = ⟨256, 256, (List.replicate 256 (.int .u8 0)), [], some (.agg (List.replicate 256 (.int .u8 0))), .arr 256 5⟩ := by kernel_rfl
theorem LA : w6 Tryz.prog 173 = ⟨2, 2, [.int .u8 0, .int .u8 0], [.int .u8 0, .int .u8 0], some (.agg [.int .u8 0, .int .u8 0]), .struct [(0, 1, false), (1, 1, false)]⟩ := by kernel_rfl
theorem LB : w6 Tryz.prog 174 = ⟨2, 2, [.int .u8 0, .int .u8 0], [.int .u8 0, .int .u8 0], some (.agg [.int .u8 0, .int .u8 0]), .struct [(0, 1, false), (1, 1, false)]⟩ := by kernel_rfl
theorem LC : w6 Tryz.prog 175 = ⟨32, 32, [.int .u8 0, .int .u8 0, .int .u8 0, .int .u8 0, .int .u8 0, .int .u8 0, .int .u8 0, .int .u8 0, .int .u8 0, .int .u8 0, .int .u8 0, .int .u8 0, .int .u8 0, .int .u8 0, .int .u8 0, .int .u8 0, .int .u8 0, .int .u8 0, .int .u8 0, .int .u8 0, .int .u8 0, .int .u8 0, .int .u8 0, .int .u8 0, .int .u8 0, .int .u8 0, .int .u8 0, .int .u8 0, .int .u8 0, .int .u8 0, .int .u8 0, .int .u8 0], [.int .u8 0, .int .u8 0, .int .u8 0, .int .u8 0, .int .u8 0, .int .u8 0, .int .u8 0, .int .u8 0, .int .u8 0, .int .u8 0, .int .u8 0, .int .u8 0, .int .u8 0, .int .u8 0, .int .u8 0, .int .u8 0, .int .u8 0, .int .u8 0, .int .u8 0, .int .u8 0, .int .u8 0, .int .u8 0, .int .u8 0, .int .u8 0, .int .u8 0, .int .u8 0, .int .u8 0, .int .u8 0, .int .u8 0, .int .u8 0, .int .u8 0, .int .u8 0], some (.agg [.int .u8 0, .int .u8 0, .int .u8 0, .int .u8 0, .int .u8 0, .int .u8 0, .int .u8 0, .int .u8 0, .int .u8 0, .int .u8 0, .int .u8 0, .int .u8 0, .int .u8 0, .int .u8 0, .int .u8 0, .int .u8 0, .int .u8 0, .int .u8 0, .int .u8 0, .int .u8 0, .int .u8 0, .int .u8 0, .int .u8 0, .int .u8 0, .int .u8 0, .int .u8 0, .int .u8 0, .int .u8 0, .int .u8 0, .int .u8 0, .int .u8 0, .int .u8 0]), .arr 16 174⟩ := by kernel_rfl
theorem LD : w6 Tryz.prog 176 = ⟨1, 8, [.D2], [.D2], some (.D2), .other⟩ := by kernel_rfl
theorem LG : w6 Tryz.prog 177 = ⟨1, 8, [.D2], [.D2], some (.D2), .other⟩ := by kernel_rfl
theorem LH : w6 Tryz.prog 178 = ⟨1, 8, [.D2], [.D2], some (.D2), .other⟩ := by kernel_rfl
theorem LI : w6 Tryz.prog 179 = ⟨256, 256, (List.replicate 256 (.bool false)), [], some (.agg (List.replicate 256 (.bool false))), .arr 256 4⟩ := by kernel_rfl
theorem LJ : w6 Tryz.prog 180 = ⟨256, 256, (List.replicate 256 (.bool false)), [], some (.agg (List.replicate 256 (.bool false))), .arr 256 4⟩ := by kernel_rfl
theorem LK : w6 Tryz.prog 181 = ⟨1, 0, [.any], [.any], some (.any), .other⟩ := by kernel_rfl
theorem LL : w6 Tryz.prog 182 = ⟨1, 8, [.D2], [.D2], some (.D2), .other⟩ := by kernel_rfl
theorem LM : w6 Tryz.prog 183 = ⟨1, 8, [.D2], [.D2], some (.D2), .other⟩ := by kernel_rfl
theorem LN : w6 Tryz.prog 184 = ⟨1, 8, [.D2], [.D2], some (.D2), .other⟩ := by kernel_rfl
theorem LO : w6 Tryz.prog 185 = ⟨1, 8, [.D2], [.D2], some (.D2), .other⟩ := by kernel_rfl
theorem LP : w6 Tryz.prog 186 = ⟨1, 8, [.D2], [.D2], some (.D2), .other⟩ := by kernel_rfl
theorem LQ : w6 Tryz.prog 187 = ⟨1, 8, [.dD], [.dD], some (.dD), .ptr 180⟩ := by kernel_rfl
theorem LS : w6 Tryz.prog 188 = ⟨1, 8, [.D2], [.D2], some (.D2), .other⟩ := by kernel_rfl
theorem LU : w6 Tryz.prog 189 = ⟨4, 40, [.dD, .dD, .dD, .str []], [.dD, .dD, .dD, .str []], some (.agg [.dD, .dD, .dD, .str []]), .struct [(0, 1, false), (1, 1, false), (2, 1, false), (3, 1, false)]⟩ := by kernel_rfl
theorem LV : w6 Tryz.prog 190 = ⟨4, 40, [.dD, .dD, .dD, .str []], [.dD, .dD, .dD, .str []], some (.agg [.dD, .dD, .dD, .str []]), .struct [(0, 1, false), (1, 1, false), (2, 1, false), (3, 1, false)]⟩ := by kernel_rfl
theorem LW : w6 Tryz.prog 191 = ⟨0, 0, [], [], some (.agg []), .arr 0 16⟩ := by kernel_rfl
theorem LX : w6 Tryz.prog 192 = ⟨0, 0, [], [], some (.agg []), .struct [(0, 0, true)]⟩ := by kernel_rfl
theorem LY : w6 Tryz.prog 193 = ⟨0, 0, [], [], some (.agg []), .struct [(0, 0, true)]⟩ := by kernel_rfl
theorem LZ : w6 Tryz.prog 194 = ⟨1, 8, [.D2], [.D2], some (.D2), .other⟩ := by kernel_rfl
theorem Ma : w6 Tryz.prog 195 = ⟨1, 4, [.int .u32 0], [.int .u32 0], some (.int .u32 0), .int .u32⟩ := by kernel_rfl
theorem Mb : w6 Tryz.prog 196 = ⟨1, 1, [.int .u8 0], [.int .u8 0], some (.int .u8 0), .int .u8⟩ := by kernel_rfl
theorem Mc : w6 Tryz.prog 197 = ⟨1, 1, [.int .u8 0], [.int .u8 0], some (.int .u8 0), .int .u8⟩ := by kernel_rfl
theorem Md : w6 Tryz.prog 198 = ⟨1, 8, [.D2], [.D2], some (.D2), .other⟩ := by kernel_rfl
theorem Me : w6 Tryz.prog 199 = ⟨1, 8, [.dD], [.dD], some (.dD), .ptr 5⟩ := by kernel_rfl
theorem Mf : w6 Tryz.prog 200 = ⟨1, 4, [.int .i32 0], [.int .i32 0], some (.int .i32 0), .int .i32⟩ := by kernel_rfl
theorem Mg : w6 Tryz.prog 201 = ⟨1, 4, [.int .i32 0], [.int .i32 0], some (.int .i32 0), .int .i32⟩ := by kernel_rfl
theorem Mh : w6 Tryz.prog 202 = ⟨11, 48, [.int .u64 0, .int .u64 0, .int .u32 0, .int .u8 0, .int .u8 0, .int .u8 0, .int .u8 0, .D2, .dD, .int .i32 0, .int .i32 0], [.int .u64 0, .int .u64 0, .int .u32 0, .int .u8 0, .int .u8 0, .int .u8 0, .int .u8 0, .D2, .dD, .int .i32 0, .int .i32 0], some (.agg [.int .u64 0, .int .u64 0, .int .u32 0, .int .u8 0, .int .u8 0, .int .u8 0, .int .u8 0, .D2, .dD, .int .i32 0, .int .i32 0]), .struct [(0, 1, false), (1, 1, false), (2, 1, false), (3, 1, false), (4, 1, false), (5, 1, false), (6, 1, false), (7, 1, false), (8, 1, false), (9, 1, false), (10, 1, false)]⟩ := by kernel_rfl
theorem Mi : w6 Tryz.prog 203 = ⟨11, 48, [.int .u64 0, .int .u64 0, .int .u32 0, .int .u8 0, .int .u8 0, .int .u8 0, .int .u8 0, .D2, .dD, .int .i32 0, .int .i32 0], [.int .u64 0, .int .u64 0, .int .u32 0, .int .u8 0, .int .u8 0, .int .u8 0, .int .u8 0, .D2, .dD, .int .i32 0, .int .i32 0], some (.agg [.int .u64 0, .int .u64 0, .int .u32 0, .int .u8 0, .int .u8 0, .int .u8 0, .int .u8 0, .D2, .dD, .int .i32 0, .int .i32 0]), .struct [(0, 1, false), (1, 1, false), (2, 1, false), (3, 1, false), (4, 1, false), (5, 1, false), (6, 1, false), (7, 1, false), (8, 1, false), (9, 1, false), (10, 1, false)]⟩ := by kernel_rfl
theorem Mj : w6 Tryz.prog 204 = ⟨1, 8, [.dD], [.dD], some (.dD), .other⟩ := by kernel_rfl
theorem fk7 : D7 Tryz.prog 7 = some [1, 1, 3, 1] := by kernel_rfl
theorem fk8 : D7 Tryz.prog 8 = some [1, 1, 3, 1] := by kernel_rfl
theorem OP : D7 Tryz.prog 24 = some [0, 0] := by kernel_rfl
theorem OQ : D7 Tryz.prog 25 = some [0, 0] := by kernel_rfl
theorem OT : D7 Tryz.prog 29 = some [0] := by kernel_rfl
theorem OU : D7 Tryz.prog 30 = some [0] := by kernel_rfl
theorem OV : D7 Tryz.prog 38 = some [0, 0, 0, 0] := by kernel_rfl
theorem OW : D7 Tryz.prog 39 = some [0, 0, 0, 0] := by kernel_rfl
theorem OX : D7 Tryz.prog 40 = some [1, 1] := by kernel_rfl
theorem OY : D7 Tryz.prog 41 = some [1, 1] := by kernel_rfl
theorem OZ : D7 Tryz.prog 60 = some [2, 0] := by kernel_rfl
theorem Pa : D7 Tryz.prog 61 = some [2, 0] := by kernel_rfl
theorem Pb : D7 Tryz.prog 65 = some [2, 0, 1, 1, 0] := by kernel_rfl
theorem Pc : D7 Tryz.prog 66 = some [2, 0, 1, 1, 0] := by kernel_rfl
theorem Pf : D7 Tryz.prog 68 = some [1, 1, 0] := by kernel_rfl
theorem Pg : D7 Tryz.prog 69 = some [1, 1, 0] := by kernel_rfl
theorem Ph : D7 Tryz.prog 70 = some [1, 1, 0] := by kernel_rfl
theorem Pj : D7 Tryz.prog 71 = some [1, 1, 0] := by kernel_rfl
theorem Pk : D7 Tryz.prog 75 = some [2, 0, 1, 0] := by kernel_rfl
theorem Pm : D7 Tryz.prog 76 = some [2, 0, 1, 0] := by kernel_rfl
theorem Pn : D7 Tryz.prog 78 = some [1, 1, 0] := by kernel_rfl
theorem Po : D7 Tryz.prog 79 = some [1, 1, 0] := by kernel_rfl
theorem Pp : D7 Tryz.prog 80 = some [1, 1, 0] := by kernel_rfl
theorem Pq : D7 Tryz.prog 81 = some [1, 1, 0] := by kernel_rfl
theorem Pr : D7 Tryz.prog 89 = some [2, 1, 1] := by kernel_rfl
theorem Pt : D7 Tryz.prog 90 = some [2, 1, 1] := by kernel_rfl
theorem Mk : D7 Tryz.prog 110 = some [0, 0] := by kernel_rfl
theorem Ml : D7 Tryz.prog 111 = some [0, 0] := by kernel_rfl
theorem Mn : D7 Tryz.prog 120 = some [2, 0] := by kernel_rfl
theorem Mp : D7 Tryz.prog 121 = some [2, 0] := by kernel_rfl
theorem Mq : D7 Tryz.prog 129 = some [1, 0] := by kernel_rfl
theorem Mr : D7 Tryz.prog 130 = some [1, 0] := by kernel_rfl
theorem Ms : D7 Tryz.prog 132 = some [1, 1] := by kernel_rfl
theorem Mt : D7 Tryz.prog 133 = some [1, 1] := by kernel_rfl
theorem Mv : D7 Tryz.prog 173 = some [1, 1] := by kernel_rfl
theorem Mw : D7 Tryz.prog 174 = some [1, 1] := by kernel_rfl
attribute [go_sem] ty0 ty1 ty2 ty3 ty4 ty5 ty6 ty7 ty8 ty9 MK ML MN MO MP MQ MR MS MU MV MW MX MY Kc MZ Na Nb Nc Nd Nf Ng Nh Ni Nj Nk Nl Nn Np Nq Nr Ns Nt Nu Nv Nw Nx Ny Nz NA NC ND NG NH NI NJ NK NM NP NQ NR NS NT NU NV NW NX NY NZ Oa Oc Od Oe Og Oh Oi Oj Ol Om Oo Oq Ot Ou Ov Ow Ox Oy Oz OA Kd OB OC OD OE OG OH OI OJ OL OM OO Ke Kf Kg Kh Ki Kj Kk Kl Km Kn Ko Kp Kq Kr Ks Kt Ku Kv Kw Kx Ky Kz KA KB KC KD KE KF Iv KG KH KI KJ KL KM KN KO KP KQ KR KS KT KU KV KW KX KY KZ La Lb Lc Ld Le Lf Lg Lh Li Lj Lk Ll Lm Ln Lo Lp Lq Lr Ls Lu Lv Lw Lx Ly Lz LA LB LC LD LG LH LI LJ LK LL LM LN LO LP LQ LS LU LV LW LX LY LZ Ma Mb Mc Md Me Mf Mg Mh Mi Mj fk7 fk8 OP OQ OT OU OV OW OX OY OZ Pa Pb Pc Pf Pg Ph Pj Pk Pm Pn Po Pp Pq Pr Pt Mk Ml Mn Mp Mq Mr Ms Mt Mv Mw
end Go.Proofs.YtaohdfpcdfbnlaaGreatDoor
